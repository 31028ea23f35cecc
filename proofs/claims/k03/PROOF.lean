import PyProof.Rows.All
import Wide.All
import OpenK.AllK
import Wide.FinOn
import HandS.ForMost
import HandS.ForExc
import HandS.ExcInit
import HandS.Conv
import HandS.Deep
import HandS.TupAny
import HandS.IsInst
import HandS.Flow
import HandS.TupLe
import HandS.Iter
import HandS.SortInts
import HandS.Strs
import KE.SortData
import KE.DataMinMax
import KE.DataAny
import HandS.Style
import HandS.Ends
import HandS.Zip
import KE.GoesEnum
import PyProof.ReprRoads
import HandS.Comp
import HandS.SetFor
import HandS.TupMul
import HandS.Dict
import PyProof.Rows.RegFStrParts
import PySem.Challenge.RW_wishpairs_k03_whole_books_of_anything
set_option Elab.async false
set_option linter.all false
set_option maxRecDepth 100000
set_option maxHeartbeats 1000000
/-! FL1: what a Python expression or statement denotes, as a plain function on PyData; the relation to the abstract heap. -/
namespace FL
open PySem PySem.Spec PyProof.Rows L2

abbrev D := PyData
abbrev VSt := L2.St

/-! ### results -/
structure Exn where
  cls : Str
  val : Option (Str × D)
inductive R (σ α : Type) where
  | ok (a : α) (s : σ)
  | ex (e : Exn) (s : σ)
  | bad
/-- a name's slot: nothing, a value that never changes, a list of its own -/
inductive Sl where
  | no
  | v (d : D)
  | l (xs : List D)
structure S where
  env : List Sl
  pool : Option (List Int)
abbrev B (α : Type) := S → R S α
@[reducible] def R.bind {σ α β : Type} (r : R σ α) (k : α → σ → R σ β) : R σ β := match r with
  | .ok a s => k a s
  | .ex e s => .ex e s
  | .bad => .bad
instance : Monad B where
  pure a := fun s => .ok a s
  bind m k := fun s => (m s).bind k
theorem bind_def {α β : Type} (m : B α) (k : α → B β) (s : S) : (m >>= k) s = (m s).bind k := rfl
theorem pure_def {α : Type} (a : α) (s : S) : (pure a : B α) s = .ok a s := rfl
inductive Fl where
  | nx | bk | ct
  | rt (d : D)
/-- a def: arguments, the pool's numbers where it has one -/
abbrev Fn := List D → Option (List Int) → R (Option (List Int)) D

/-- what stands for the pool -/
def poolD : D := .dict [(.none, .none)]
/-- what stands for the script's list -/
def scrD (ds : List D) : D := .dict [(.bool true, .list ds)]

/-! ### values of the heap that stand for data -/
/-- a tuple that has no dict of its own -/
def TupZ (K : PySem.W.Frag) (Z : Hp) (a : Addr) (xs : List V) : Prop :=
  (∃ o, Z a = some (.frz o (.tup xs)) ∧ o.dict = none) ∨
    ∃ (o : Obj) (its : Array Value) (n : Nat), K.lookup a = some o ∧ o.cls = .type "tuple" ∧ o.dict = none ∧ o.data = .seq its n ∧ its.size ≤ sizeLine ∧ Vals xs its.toList
theorem TupZ.sq {K : PySem.W.Frag} {Z : Hp} {a : Addr} {xs : List V} (h : TupZ K Z a xs) : SqT K Z a xs := by
  rcases h with ⟨o, h, _⟩ | ⟨o, its, n, h1, h2, _, h3, h4, h5⟩
  · exact .inl (.inr ⟨o, h⟩)
  · exact .inr ⟨o, its, n, h1, h2, h3, h4, h5⟩
theorem TupZ.mono {K : PySem.W.Frag} {Z Z' : Hp} {a : Addr} {xs : List V} (s : Same Z Z') (h : TupZ K Z a xs) : TupZ K Z' a xs := by
  rcases h with ⟨o, h, d⟩ | h
  · exact .inl ⟨o, s _ _ h, d⟩
  · exact .inr h
theorem sqT_mono {K : PySem.W.Frag} {Z Z' : Hp} {a : Addr} {xs : List V} (s : Same Z Z') (h : SqT K Z a xs) : SqT K Z' a xs := by
  rcases h with (h | ⟨o, h⟩) | h
  · exact .inl (.inl (s _ _ h))
  · exact .inl (.inr ⟨o, s _ _ h⟩)
  · exact .inr h

mutual
inductive Rep (K : PySem.W.Frag) (pa : Addr) (Z : Hp) : V → D → Prop
  | non : Rep K pa Z .non .none
  | bl (b : Bool) : Rep K pa Z (.bl b) (.bool b)
  | int (i : Int) : Rep K pa Z (.int i) (.int i)
  | str (x : Str) : Rep K pa Z (.str x) (.str x)
  | lst {a : Addr} {xs : List V} {ds : List D} : Z a = some (.lst xs) → RepA K pa Z xs ds → Rep K pa Z (.ref a) (.list ds)
  | tup {a : Addr} {xs : List V} {ds : List D} : TupZ K Z a xs → RepA K pa Z xs ds → Rep K pa Z (.ref a) (.tuple ds)
  | pool : Rep K pa Z (.ref pa) poolD
  | scr {a : Addr} {xs : List V} {ds : List D} : SqL K Z a xs → RepA K pa Z xs ds → Rep K pa Z (.ref a) (scrD ds)
  | dic0 {a : Addr} : Z a = some (.dK []) → Rep K pa Z (.ref a) (.dict [])
inductive RepA (K : PySem.W.Frag) (pa : Addr) (Z : Hp) : List V → List D → Prop
  | nil : RepA K pa Z [] []
  | cons {v : V} {vs : List V} {d : D} {ds : List D} : Rep K pa Z v d → RepA K pa Z vs ds → RepA K pa Z (v :: vs) (d :: ds)
end

section
variable {K : PySem.W.Frag} {pa : Addr} {Z Z' H : Hp}
mutual
theorem Rep.mono (s : Same Z Z') : ∀ {v : V} {d : D}, Rep K pa Z v d → Rep K pa Z' v d
  | _, _, .non => .non
  | _, _, .bl b => .bl b
  | _, _, .int i => .int i
  | _, _, .str x => .str x
  | _, _, .lst h r => .lst (s _ _ h) (RepA.mono s r)
  | _, _, .tup h r => .tup (h.mono s) (RepA.mono s r)
  | _, _, .pool => .pool
  | _, _, .scr h r => .scr (s.seq h) (RepA.mono s r)
  | _, _, .dic0 h => .dic0 (s _ _ h)
theorem RepA.mono (s : Same Z Z') : ∀ {vs : List V} {ds : List D}, RepA K pa Z vs ds → RepA K pa Z' vs ds
  | _, _, .nil => .nil
  | _, _, .cons h t => .cons (Rep.mono s h) (RepA.mono s t)
end
theorem RepA.length : ∀ {vs : List V} {ds : List D}, RepA K pa Z vs ds → vs.length = ds.length
  | _, _, .nil => rfl
  | _, _, .cons _ t => by simp [RepA.length t]
theorem RepA.get : ∀ {vs : List V} {ds : List D} {i : Nat} {d : D}, RepA K pa Z vs ds → ds[i]? = some d → ∃ v, vs[i]? = some v ∧ Rep K pa Z v d
  | _, _, _, _, .nil, e => by simp at e
  | _, _, 0, _, .cons r _, e => by simp at e; subst e; exact ⟨_, rfl, r⟩
  | _, _, i + 1, d, .cons _ t, e => by
    obtain ⟨v, h1, h2⟩ := RepA.get (i := i) (d := d) t (by simpa using e)
    exact ⟨v, by simpa using h1, h2⟩
theorem RepA.at {vs : List V} {ds : List D} {i : Nat} {v : V} (r : RepA K pa Z vs ds) (e : vs[i]? = some v) : ∃ d, ds[i]? = some d ∧ Rep K pa Z v d := by
  have hi : i < ds.length := by rw [← r.length]; exact (List.getElem?_eq_some_iff.mp e).1
  obtain ⟨v', h1, h2⟩ := r.get (List.getElem?_eq_getElem hi)
  rw [e] at h1
  cases h1
  exact ⟨_, List.getElem?_eq_getElem hi, h2⟩
theorem RepA.append : ∀ {vs : List V} {ds : List D} {ws : List V} {es : List D}, RepA K pa Z vs ds → RepA K pa Z ws es → RepA K pa Z (vs ++ ws) (ds ++ es)
  | _, _, _, _, .nil, s => s
  | _, _, _, _, .cons r t, s => .cons r (RepA.append t s)
theorem RepA.take : ∀ {vs : List V} {ds : List D} (n : Nat), RepA K pa Z vs ds → RepA K pa Z (vs.take n) (ds.take n)
  | _, _, 0, _ => .nil
  | _, _, _ + 1, .nil => .nil
  | _, _, n + 1, .cons r t => .cons r (RepA.take n t)
theorem RepA.drop : ∀ {vs : List V} {ds : List D} (n : Nat), RepA K pa Z vs ds → RepA K pa Z (vs.drop n) (ds.drop n)
  | _, _, 0, r => r
  | _, _, _ + 1, .nil => .nil
  | _, _, n + 1, .cons _ t => RepA.drop n t
theorem RepA.eraseIdx : ∀ {vs : List V} {ds : List D} (n : Nat), RepA K pa Z vs ds → RepA K pa Z (vs.eraseIdx n) (ds.eraseIdx n)
  | _, _, _, .nil => .nil
  | _, _, 0, .cons _ t => t
  | _, _, n + 1, .cons r t => .cons r (RepA.eraseIdx n t)
theorem RepA.set {v : V} {d : D} (q : Rep K pa Z v d) : ∀ {vs : List V} {ds : List D} (n : Nat), RepA K pa Z vs ds → RepA K pa Z (vs.set n v) (ds.set n d)
  | _, _, _, .nil => .nil
  | _, _, 0, .cons _ t => .cons q t
  | _, _, n + 1, .cons r t => .cons r (RepA.set q n t)
theorem RepA.reverse : ∀ {vs : List V} {ds : List D}, RepA K pa Z vs ds → RepA K pa Z vs.reverse ds.reverse
  | _, _, .nil => .nil
  | _, _, .cons r t => by
    rw [List.reverse_cons, List.reverse_cons]
    exact RepA.append (RepA.reverse t) (.cons r .nil)
theorem RepA.ints (ns : List Int) : RepA K pa Z (ns.map V.int) (ns.map PyData.int) := by
  induction ns with
  | nil => exact .nil
  | cons n r ih => exact .cons (.int n) ih
/-- data without the pool, the script, dicts -/
theorem Rep.dp : ∀ (d : D) {v : V}, d.canLay0 = true → Rep K pa Z v d → Same Z H → Dp K H v d := by
  intro d v hd r s
  exact go d hd r s
where
  go : ∀ (d : D) {v : V}, d.canLay0 = true → Rep K pa Z v d → Same Z H → Dp K H v d
    | .none, _, _, .non, _ => .non
    | .bool _, _, _, .bl b, _ => .bl b
    | .int _, _, _, .int i, _ => .int i
    | .str _, _, _, .str x, _ => .str x
    | .list ds, _, hd, .lst h r, s => .lst (.of (s _ _ h)) (goA ds (by simpa [PyData.canLay0] using hd) r s)
    | .tuple ds, _, hd, .tup h r, s => .tup (sqT_mono s h.sq) (goA ds (by simpa [PyData.canLay0] using hd) r s)
    | .dict _, _, hd, _, _ => by simp [PyData.canLay0] at hd
  goA : ∀ (ds : List D) {vs : List V}, PyData.canLayAll0 ds = true → RepA K pa Z vs ds → Same Z H → DpAll K H vs ds
    | [], _, _, .nil, _ => .nil
    | d :: ds, _, hd, .cons h t, s => by
      have h' : d.canLay0 = true ∧ PyData.canLayAll0 ds = true := by simpa [PyData.canLayAll0] using hd
      exact .cons (go d h'.1 h s) (goA ds h'.2 t s)
end

/-! ### the state -/
/-- the frozen part grows, never over what stood at the entry -/
structure ZExt (B0 Z Z' : Hp) : Prop where
  zz : Same Z Z'
  old : ∀ b o, B0 b = some o → Z' b = Z b
theorem ZExt.refl (B0 Z : Hp) : ZExt B0 Z Z := ⟨Same.refl Z, fun _ _ _ => rfl⟩
theorem ZExt.trans {B0 Z Z1 Z2 : Hp} (a : ZExt B0 Z Z1) (b : ZExt B0 Z1 Z2) : ZExt B0 Z Z2 :=
  ⟨a.zz.trans b.zz, fun c o h => (b.old c o h).trans (a.old c o h)⟩

structure Ok (K : PySem.W.Frag) (pa : Addr) (B0 : Hp) (Z H : Hp) (σ : VSt) (s : S) : Prop where
  len : σ.length = s.env.length
  sub : Same Z H
  base : ∀ b o, (b ≠ pa ∨ s.pool = none) → B0 b = some o → H b = some o
  val : ∀ (i : Nat) (d : D), s.env[i]? = some (.v d) → ∃ v, σ[i]? = some (some v) ∧ Rep K pa Z v d
  own : ∀ (i : Nat) (xs : List D), s.env[i]? = some (.l xs) → ∃ p vs, σ[i]? = some (some (V.ref p)) ∧ H p = some (.lst vs) ∧ Z p = none ∧ B0 p = none ∧ RepA K pa Z vs xs
  apart : ∀ (i j : Nat) (xs ys : List D) (p : Addr), i ≠ j → s.env[i]? = some (.l xs) → s.env[j]? = some (.l ys) → σ[i]? = some (some (V.ref p)) → σ[j]? = some (some (V.ref p)) → False
  pool : ∀ ps, s.pool = some ps → H pa = some (.lst (ps.map V.int)) ∧ Z pa = none ∧ ∃ o, B0 pa = some o

/-- what is new is new -/
structure Grow (Z H Z' H' : Hp) : Prop where
  keep : Same H H'
  zz : Same Z Z'
  zh : Same Z' H'
  new : ∀ b o, H b = some o → Z' b = Z b
theorem Grow.refl {Z H : Hp} (s : Same Z H) : Grow Z H Z H := ⟨Same.refl H, Same.refl Z, s, fun _ _ _ => rfl⟩
theorem Grow.trans {Z H Z1 H1 Z2 H2 : Hp} (a : Grow Z H Z1 H1) (b : Grow Z1 H1 Z2 H2) : Grow Z H Z2 H2 :=
  ⟨a.keep.trans b.keep, a.zz.trans b.zz, b.zh, fun c o h => (b.new c o (a.keep c o h)).trans (a.new c o h)⟩
theorem same_upd {H : Hp} {p : Addr} {o : HO} (h : H p = none) : Same H (upd H p o) := fun b x e => by
  rw [upd_ne (ne_of_none e h)]
  exact e
theorem free_sub {Z H : Hp} (s : Same Z H) {p : Addr} (h : H p = none) : Z p = none := s.free h
/-- a new object, frozen at once -/
theorem Grow.new1 {Z H : Hp} (s : Same Z H) {p : Addr} {o : HO} (h : H p = none) : Grow Z H (upd Z p o) (upd H p o) := by
  refine ⟨same_upd h, same_upd (free_sub s h), fun b x e => ?_, fun b x e => ?_⟩
  · by_cases hb : b = p
    · subst hb
      rw [upd_same] at e ⊢
      exact e
    · rw [upd_ne hb] at e ⊢
      exact s b x e
  · exact upd_ne (ne_of_none e h)
/-- a new object, not frozen -/
theorem Grow.new0 {Z H : Hp} (s : Same Z H) {p : Addr} {o : HO} (h : H p = none) : Grow Z H Z (upd H p o) :=
  ⟨same_upd h, Same.refl Z, fun b x e => same_upd h b x (s b x e), fun _ _ _ => rfl⟩

section
variable {K : PySem.W.Frag} {pa : Addr} {B0 Z Z' H H' : Hp} {σ : VSt} {s : S}
theorem Ok.ownH (k : Ok K pa B0 Z H σ s) {i : Nat} {xs : List D} {p : Addr} (e : s.env[i]? = some (.l xs)) (h : σ[i]? = some (some (V.ref p))) : ∃ vs, H p = some (.lst vs) ∧ Z p = none ∧ B0 p = none ∧ RepA K pa Z vs xs := by
  obtain ⟨q, vs, h1, h2, h3, h4, h5⟩ := k.own i xs e
  rw [h] at h1
  cases h1
  exact ⟨vs, h2, h3, h4, h5⟩
theorem Ok.ext (k : Ok K pa B0 Z H σ s) (g : Grow Z H Z' H') : ZExt B0 Z Z' := by
  refine ⟨g.zz, fun b o h => ?_⟩
  by_cases hb : b ≠ pa ∨ s.pool = none
  · exact g.new b o (k.base b o hb h)
  · have h1 : b = pa := Classical.not_not.mp fun z => hb (.inl z)
    have h2 : s.pool ≠ none := fun z => hb (.inr z)
    obtain ⟨ps, e⟩ := Option.ne_none_iff_exists'.mp h2
    subst h1
    exact g.new b _ (k.pool ps e).1
theorem Ok.grow (k : Ok K pa B0 Z H σ s) (g : Grow Z H Z' H') : Ok K pa B0 Z' H' σ s where
  len := k.len
  sub := g.zh
  base := fun b o c h => g.keep b o (k.base b o c h)
  val := fun i d h => by
    obtain ⟨v, h1, h2⟩ := k.val i d h
    exact ⟨v, h1, h2.mono g.zz⟩
  own := fun i xs h => by
    obtain ⟨p, vs, h1, h2, h3, h4, h5⟩ := k.own i xs h
    exact ⟨p, vs, h1, g.keep _ _ h2, (g.new _ _ h2).trans h3, h4, h5.mono g.zz⟩
  apart := k.apart
  pool := fun ps h => by
    obtain ⟨h1, h2, h3⟩ := k.pool ps h
    exact ⟨g.keep _ _ h1, (g.new _ _ h1).trans h2, h3⟩
/-- an address that is free is not in the state's base -/
theorem Ok.free0 (k : Ok K pa B0 Z H σ s) {p : Addr} (h : H p = none) : B0 p = none := by
  cases e : B0 p with
  | none => rfl
  | some o =>
    by_cases hb : p ≠ pa ∨ s.pool = none
    · rw [k.base p o hb e] at h
      cases h
    · have h1 : p = pa := Classical.not_not.mp fun z => hb (.inl z)
      have h2 : s.pool ≠ none := fun z => hb (.inr z)
      obtain ⟨ps, e⟩ := Option.ne_none_iff_exists'.mp h2
      subst h1
      rw [(k.pool ps e).1] at h
      cases h
/-- not one of the state's own lists -/
structure Fresh (K : PySem.W.Frag) (pa : Addr) (B0 Z : Hp) (σ : VSt) (s : S) (p : Addr) : Prop where
  z : Z p = none
  b : B0 p = none
  own : ∀ (i : Nat) (xs : List D), s.env[i]? = some (.l xs) → σ[i]? ≠ some (some (V.ref p))
theorem Ok.fresh (k : Ok K pa B0 Z H σ s) {p : Addr} (h : H p = none) : Fresh K pa B0 Z σ s p :=
  ⟨free_sub k.sub h, k.free0 h, fun i xs e q => by
    obtain ⟨vs, h1, _⟩ := k.ownH e q
    rw [h] at h1
    cases h1⟩
theorem Fresh.notPool (f : Fresh K pa B0 Z σ s p) (k : Ok K pa B0 Z H σ s) {ps : List Int} (e : s.pool = some ps) : p ≠ pa := fun z => by
  obtain ⟨o, ho⟩ := (k.pool ps e).2.2
  have := f.b
  rw [z, ho] at this
  cases this
/-- an own list is frozen for good -/
theorem Ok.freezeAt (k : Ok K pa B0 Z H σ s) {p : Addr} {vs : List V} (h : H p = some (.lst vs)) (f : Fresh K pa B0 Z σ s p) : Ok K pa B0 (upd Z p (.lst vs)) H σ s ∧ ZExt B0 Z (upd Z p (.lst vs)) := by
  have zz : Same Z (upd Z p (.lst vs)) := same_upd f.z
  refine ⟨⟨k.len, fun b o e => ?_, k.base, fun i d e => ?_, fun i xs e => ?_, k.apart, fun ps e => ?_⟩, zz, fun b o e => ?_⟩
  · by_cases hb : b = p
    · subst hb
      rw [upd_same] at e
      cases e
      exact h
    · rw [upd_ne hb] at e
      exact k.sub b o e
  · obtain ⟨v, h1, h2⟩ := k.val i d e
    exact ⟨v, h1, h2.mono zz⟩
  · obtain ⟨q, ws, h1, h2, h3, h4, h5⟩ := k.own i xs e
    have hq : q ≠ p := fun z => f.own i xs e (z ▸ h1)
    exact ⟨q, ws, h1, h2, by rw [upd_ne hq]; exact h3, h4, h5.mono zz⟩
  · obtain ⟨h1, h2, h3⟩ := k.pool ps e
    exact ⟨h1, by rw [upd_ne (Ne.symm (f.notPool k e))]; exact h2, h3⟩
  · have hb : b ≠ p := fun z => by
      rw [z, f.b] at e
      cases e
    exact upd_ne hb
theorem nth_set_self {α : Type} {l : List α} {i : Nat} {a b : α} (h : (l.set i a)[i]? = some b) : b = a := by
  by_cases hi : i < l.length
  · rw [List.getElem?_set_self hi] at h
    exact (Option.some.inj h).symm
  · rw [List.getElem?_eq_none (by simpa using hi)] at h
    cases h
/-- a name gets a value -/
theorem Ok.setV (k : Ok K pa B0 Z H σ s) (i : Nat) {v : V} {d : D} (r : Rep K pa Z v d) : Ok K pa B0 Z H (σ.set i (some v)) { s with env := s.env.set i (.v d) } where
  len := by simpa using k.len
  sub := k.sub
  base := k.base
  val := fun j e h => by
    by_cases hj : i = j
    · subst hj
      have e1 := nth_set_self h
      cases e1
      have hi : i < s.env.length := by
        have := (List.getElem?_eq_some_iff.mp h).1
        simpa using this
      exact ⟨v, List.getElem?_set_self (by rw [k.len]; exact hi), r⟩
    · rw [List.getElem?_set_ne hj] at h
      obtain ⟨w, h1, h2⟩ := k.val j e h
      exact ⟨w, by rw [List.getElem?_set_ne hj]; exact h1, h2⟩
  own := fun j xs h => by
    by_cases hj : i = j
    · subst hj
      have e1 := nth_set_self h
      cases e1
    · rw [List.getElem?_set_ne hj] at h
      obtain ⟨p, vs, h1, h2⟩ := k.own j xs h
      exact ⟨p, vs, by rw [List.getElem?_set_ne hj]; exact h1, h2⟩
  apart := fun a b xs ys p hne ha hb h1 h2 => by
    by_cases ia : i = a
    · subst ia
      have e1 := nth_set_self ha
      cases e1
    · by_cases ib : i = b
      · subst ib
        have e1 := nth_set_self hb
        cases e1
      · rw [List.getElem?_set_ne ia] at ha h1
        rw [List.getElem?_set_ne ib] at hb h2
        exact k.apart a b xs ys p hne ha hb h1 h2
  pool := k.pool
/-- a name gets a list of its own -/
theorem Ok.setO (k : Ok K pa B0 Z H σ s) (i : Nat) {p : Addr} {vs : List V} {ds : List D} (h : H p = some (.lst vs)) (f : Fresh K pa B0 Z σ s p) (r : RepA K pa Z vs ds) : Ok K pa B0 Z H (σ.set i (some (.ref p))) { s with env := s.env.set i (.l ds) } where
  len := by simpa using k.len
  sub := k.sub
  base := k.base
  val := fun j e h => by
    by_cases hj : i = j
    · subst hj
      have e1 := nth_set_self h
      cases e1
    · rw [List.getElem?_set_ne hj] at h
      obtain ⟨w, h1, h2⟩ := k.val j e h
      exact ⟨w, by rw [List.getElem?_set_ne hj]; exact h1, h2⟩
  own := fun j xs e => by
    by_cases hj : i = j
    · subst hj
      have e1 := nth_set_self e
      cases e1
      have hi : i < s.env.length := by
        have := (List.getElem?_eq_some_iff.mp e).1
        simpa using this
      exact ⟨p, vs, List.getElem?_set_self (by rw [k.len]; exact hi), h, f.z, f.b, r⟩
    · rw [List.getElem?_set_ne hj] at e
      obtain ⟨p, vs, h1, h2⟩ := k.own j xs e
      exact ⟨p, vs, by rw [List.getElem?_set_ne hj]; exact h1, h2⟩
  apart := fun a b xs ys q hne ha hb h1 h2 => by
    by_cases ia : i = a
    · subst ia
      have hi : i < s.env.length := by
        have := (List.getElem?_eq_some_iff.mp ha).1
        simpa using this
      rw [List.getElem?_set_self (by rw [k.len]; exact hi)] at h1
      cases h1
      rw [List.getElem?_set_ne hne] at hb h2
      exact f.own b ys hb h2
    · by_cases ib : i = b
      · subst ib
        have hi : i < s.env.length := by
          have := (List.getElem?_eq_some_iff.mp hb).1
          simpa using this
        rw [List.getElem?_set_self (by rw [k.len]; exact hi)] at h2
        cases h2
        rw [List.getElem?_set_ne ia] at ha h1
        exact f.own a xs ha h1
      · rw [List.getElem?_set_ne ia] at ha h1
        rw [List.getElem?_set_ne ib] at hb h2
        exact k.apart a b xs ys q hne ha hb h1 h2
  pool := k.pool
/-- a name's own list: forgotten, or turned into a value -/
theorem Ok.toV (k : Ok K pa B0 Z H σ s) {i : Nat} {xs : List D} (e : s.env[i]? = some (.l xs)) :
    ∃ Z' p, Ok K pa B0 Z' H σ { s with env := s.env.set i (.v (.list xs)) } ∧ ZExt B0 Z Z' ∧ σ[i]? = some (some (V.ref p)) ∧ Rep K pa Z' (.ref p) (.list xs) := by
  obtain ⟨p, vs, h1, h2, h3, h4, h5⟩ := k.own i xs e
  have hi : i < s.env.length := (List.getElem?_eq_some_iff.mp e).1
  have zz : Same Z (upd Z p (.lst vs)) := same_upd h3
  have rp : Rep K pa (upd Z p (.lst vs)) (.ref p) (.list xs) := .lst upd_same (h5.mono zz)
  refine ⟨upd Z p (.lst vs), p, ⟨by simpa using k.len, fun b o q => ?_, k.base, fun j d q => ?_, fun j ys q => ?_, fun a b ys zs q hne ha hb g1 g2 => ?_, fun ps q => ?_⟩, ⟨zz, fun b o q => ?_⟩, h1, rp⟩
  · by_cases hb : b = p
    · subst hb
      rw [upd_same] at q
      cases q
      exact h2
    · rw [upd_ne hb] at q
      exact k.sub b o q
  · by_cases hj : i = j
    · subst hj
      have e1 := nth_set_self q
      cases e1
      exact ⟨_, h1, rp⟩
    · rw [List.getElem?_set_ne hj] at q
      obtain ⟨w, g1, g2⟩ := k.val j d q
      exact ⟨w, g1, g2.mono zz⟩
  · by_cases hj : i = j
    · subst hj
      have e1 := nth_set_self q
      cases e1
    · rw [List.getElem?_set_ne hj] at q
      obtain ⟨r, ws, g1, g2, g3, g4, g5⟩ := k.own j ys q
      have hr : r ≠ p := fun z => k.apart i j xs ys p hj e q h1 (z ▸ g1)
      exact ⟨r, ws, g1, g2, by rw [upd_ne hr]; exact g3, g4, g5.mono zz⟩
  · have ha' : i ≠ a := fun z => by
      subst z
      have e1 := nth_set_self ha
      cases e1
    have hb' : i ≠ b := fun z => by
      subst z
      have e1 := nth_set_self hb
      cases e1
    rw [List.getElem?_set_ne ha'] at ha
    rw [List.getElem?_set_ne hb'] at hb
    exact k.apart a b ys zs q hne ha hb g1 g2
  · obtain ⟨g1, g2, g3⟩ := k.pool ps q
    have hp : pa ≠ p := fun z => by
      obtain ⟨o, ho⟩ := g3
      rw [z, h4] at ho
      cases ho
    exact ⟨g1, by rw [upd_ne hp]; exact g2, g3⟩
  · have hb : b ≠ p := fun z => by
      rw [z, h4] at q
      cases q
    exact upd_ne hb
/-- an own list is written -/
theorem Ok.put (k : Ok K pa B0 Z H σ s) {i : Nat} {xs ys : List D} {p : Addr} {ws : List V} (e : s.env[i]? = some (.l xs)) (hp : σ[i]? = some (some (V.ref p))) (r : RepA K pa Z ws ys) :
    Ok K pa B0 Z (upd H p (.lst ws)) σ { s with env := s.env.set i (.l ys) } := by
  obtain ⟨vs, h2, h3, h4, h5⟩ := k.ownH e hp
  have hi : i < s.env.length := (List.getElem?_eq_some_iff.mp e).1
  refine ⟨by simpa using k.len, fun b o q => ?_, fun b o c q => ?_, fun j d q => ?_, fun j zs q => ?_, fun a b us zs q hne ha hb g1 g2 => ?_, fun ps q => ?_⟩
  · have hb : b ≠ p := fun z => by
      rw [z, h3] at q
      cases q
    rw [upd_ne hb]
    exact k.sub b o q
  · have hb : b ≠ p := fun z => by
      rw [z, h4] at q
      cases q
    rw [upd_ne hb]
    exact k.base b o c q
  · by_cases hj : i = j
    · subst hj
      have e1 := nth_set_self q
      cases e1
    · rw [List.getElem?_set_ne hj] at q
      exact k.val j d q
  · by_cases hj : i = j
    · subst hj
      have e1 := nth_set_self q
      cases e1
      exact ⟨p, ws, hp, upd_same, h3, h4, r⟩
    · rw [List.getElem?_set_ne hj] at q
      obtain ⟨r', us, g1, g2, g3, g4, g5⟩ := k.own j zs q
      have hr : r' ≠ p := fun z => k.apart i j xs zs p hj e q hp (z ▸ g1)
      exact ⟨r', us, g1, by rw [upd_ne hr]; exact g2, g3, g4, g5⟩
  · have far : ∀ c : Nat, ∀ ts : List D, (s.env.set i (.l ys))[c]? = some (.l ts) → ∃ ts', s.env[c]? = some (.l ts') := fun c ts h => by
      by_cases hc : i = c
      · subst hc
        exact ⟨xs, e⟩
      · rw [List.getElem?_set_ne hc] at h
        exact ⟨ts, h⟩
    obtain ⟨us', ha'⟩ := far a us ha
    obtain ⟨zs', hb'⟩ := far b zs hb
    exact k.apart a b us' zs' q hne ha' hb' g1 g2
  · obtain ⟨g1, g2, g3⟩ := k.pool ps q
    have hq : pa ≠ p := fun z => by
      obtain ⟨o, ho⟩ := g3
      rw [z, h4] at ho
      cases ho
    exact ⟨by rw [upd_ne hq]; exact g1, g2, g3⟩
/-- the pool is written -/
theorem Ok.putPool (k : Ok K pa B0 Z H σ s) {ps qs : List Int} (e : s.pool = some ps) : Ok K pa B0 Z (upd H pa (.lst (qs.map V.int))) σ { s with pool := some qs } := by
  obtain ⟨g1, g2, o, g3⟩ := k.pool ps e
  refine ⟨k.len, fun b x q => ?_, fun b x c q => ?_, k.val, fun j zs q => ?_, k.apart, fun rs q => ?_⟩
  · have hb : b ≠ pa := fun z => by
      rw [z, g2] at q
      cases q
    rw [upd_ne hb]
    exact k.sub b x q
  · rcases c with c | c
    · rw [upd_ne c]
      exact k.base b x (.inl c) q
    · cases c
  · obtain ⟨p, us, q1, q2, q3, q4, q5⟩ := k.own j zs q
    have hp : p ≠ pa := fun z => by
      rw [z, g3] at q4
      cases q4
    exact ⟨p, us, q1, by rw [upd_ne hp]; exact q2, q3, q4, q5⟩
  · cases q
    exact ⟨upd_same, g2, o, g3⟩
/-- another base: what stands is more -/
theorem Ok.rebase (k : Ok K pa B0 Z H σ s) {B1 : Hp} (h1 : ∀ b o, (b ≠ pa ∨ s.pool = none) → B1 b = some o → H b = some o) (h2 : ∀ (i : Nat) (xs : List D) (p : Addr), s.env[i]? = some (.l xs) → σ[i]? = some (some (V.ref p)) → B1 p = none)
    (h3 : ∀ ps, s.pool = some ps → ∃ o, B1 pa = some o) : Ok K pa B1 Z H σ s :=
  ⟨k.len, k.sub, h1, k.val, fun i xs e => by
    obtain ⟨p, vs, g1, g2, g3, g4, g5⟩ := k.own i xs e
    exact ⟨p, vs, g1, g2, g3, h2 i xs p e g1, g5⟩, k.apart, fun ps e => ⟨(k.pool ps e).1, (k.pool ps e).2.1, h3 ps e⟩⟩
end

/-! ### the judgements -/
/-- an exception stands for e -/
def ExnRep (K : PySem.W.Frag) (mg : Str → Option Value) (pa : Addr) (Z H : Hp) (cls : Value) (dx : Option Addr) (e : Exn) : Prop :=
  ∃ C : Addr, cls = .ref C ∧ mg e.cls = some (.ref C) ∧ match e.val with
    | none => dx = none
    | some (f, d) => ∃ a v, dx = some a ∧ H a = some (.xd [(f, v)]) ∧ Rep K pa Z v d

section
variable (K : PySem.W.Frag) (mg : Str → Option Value) (pa : Addr) (B0 : Hp) (W : WX)
def End {α : Type} (σ : VSt) (Z : Hp) (r : R S α) (P : α → S → Hp → Hp → Prop) : Prop := match r with
  | .ok d s' => ∀ H' Z', Ok K pa B0 Z' H' σ s' → ZExt B0 Z Z' → P d s' Z' H'
  | .ex e s' => ∀ cls dx H' Z', Ok K pa B0 Z' H' σ s' → ZExt B0 Z Z' → ExnRep K mg pa Z' H' cls dx e → W cls dx σ H'
  | .bad => False
def tE (f : B D) : TE := fun σ H Q => ∃ Z s, Ok K pa B0 Z H σ s ∧ End K mg pa B0 W σ Z (f s) fun d _ Z' H' => ∀ v, Rep K pa Z' v d → Q v H'
def tT (f : B Bool) : TT := fun σ H Q => ∃ Z s, Ok K pa B0 Z H σ s ∧ End K mg pa B0 W σ Z (f s) fun b _ _ H' => Q b H'
def tA (f : B (List D)) : TA := fun σ H Q => ∃ Z s, Ok K pa B0 Z H σ s ∧ End K mg pa B0 W σ Z (f s) fun ds _ Z' H' => ∀ vs, RepA K pa Z' vs ds → Q vs H'
def tO (f : B (List D)) : TE := fun σ H Q => ∃ Z s, Ok K pa B0 Z H σ s ∧ End K mg pa B0 W σ Z (f s) fun ds s' Z' H' => ∀ p vs, H' p = some (.lst vs) → Fresh K pa B0 Z' σ s' p → RepA K pa Z' vs ds → Q (.ref p) H'
def EndS (Z : Hp) (r : R S Fl) (En : Ends) : Prop := match r with
  | .ok .nx s' => ∀ σ' H' Z', Ok K pa B0 Z' H' σ' s' → ZExt B0 Z Z' → En.nx σ' H'
  | .ok .bk s' => ∀ σ' H' Z', Ok K pa B0 Z' H' σ' s' → ZExt B0 Z Z' → En.bk σ' H'
  | .ok .ct s' => ∀ σ' H' Z', Ok K pa B0 Z' H' σ' s' → ZExt B0 Z Z' → En.ct σ' H'
  | .ok (.rt d) s' => ∀ v σ' H' Z', Ok K pa B0 Z' H' σ' s' → ZExt B0 Z Z' → Rep K pa Z' v d → En.rt v H'
  | .ex e s' => ∀ cls dx σ' H' Z', Ok K pa B0 Z' H' σ' s' → ZExt B0 Z Z' → ExnRep K mg pa Z' H' cls dx e → W cls dx σ' H'
  | .bad => False
def tS (g : B Fl) : TS := fun En σ H => ∃ Z s, Ok K pa B0 Z H σ s ∧ EndS K mg pa B0 W Z (g s) En
end
structure FE (X : Cx) (e : Expr) (f : B D) : Prop where
  pe : ∀ pa B0 W, Takes X W → PE X e (tE X.K X.mg pa B0 W f)
structure FO (X : Cx) (e : Expr) (f : B (List D)) : Prop where
  pe : ∀ pa B0 W, Takes X W → PE X e (tO X.K X.mg pa B0 W f)
structure FT (X : Cx) (e : Expr) (f : B Bool) : Prop where
  pt : ∀ pa B0 W, Takes X W → PT X e (tT X.K X.mg pa B0 W f)
structure FW (X : Cx) (e : Expr) (f : B Bool) : Prop where
  pw : ∀ pa B0 W, Takes X W → PW X e (tT X.K X.mg pa B0 W f)
structure FA (X : Cx) (es : List Expr) (f : B (List D)) : Prop where
  pa : ∀ pa B0 W, Takes X W → PA X es (tA X.K X.mg pa B0 W f)
structure FS (X : Cx) (st : Stmt) (g : B Fl) : Prop where
  ps : ∀ pa B0 W, Takes X W → PS X st (tS X.K X.mg pa B0 W g)
structure FSs (X : Cx) (st : List Stmt) (g : B Fl) : Prop where
  ps : ∀ pa B0 W, Takes X W → PSs X st (tS X.K X.mg pa B0 W g)

section
variable {K : PySem.W.Frag} {mg : Str → Option Value} {pa : Addr} {B0 : Hp} {W : WX} {α β : Type} {σ : VSt} {Z Z' : Hp}
theorem End.mono {r : R S α} {P P' : α → S → Hp → Hp → Prop} (x : ZExt B0 Z Z') (h : End K mg pa B0 W σ Z r P) (hp : ∀ a s Z H, P a s Z H → P' a s Z H) : End K mg pa B0 W σ Z' r P' := by
  cases r with
  | ok a s => exact fun H' Z'' k z => hp _ _ _ _ (h H' Z'' k (x.trans z))
  | ex e s => exact fun c d H' Z'' k z => h c d H' Z'' k (x.trans z)
  | bad => exact h
theorem End.imp {r : R S α} {P P' : α → S → Hp → Hp → Prop} (h : End K mg pa B0 W σ Z r P) (hp : ∀ a s Z1 H, Ok K pa B0 Z1 H σ s → ZExt B0 Z Z1 → P a s Z1 H → P' a s Z1 H) : End K mg pa B0 W σ Z r P' := by
  cases r with
  | ok a s => exact fun H' Z'' k z => hp _ _ _ _ k z (h H' Z'' k z)
  | ex e s => exact h
  | bad => exact h
/-- one after another -/
theorem End.bind {r : R S α} {k : α → S → R S β} {P : β → S → Hp → Hp → Prop} (h : End K mg pa B0 W σ Z (r.bind k) P) :
    End K mg pa B0 W σ Z r fun a s1 Z1 _ => End K mg pa B0 W σ Z1 (k a s1) P := by
  cases r with
  | ok a s =>
    have h : End K mg pa B0 W σ Z (k a s) P := h
    exact fun H' Z' ok z => h.mono z fun _ _ _ _ q => q
  | ex e s => exact h
  | bad => exact h
theorem End.pure {a : α} {s : S} {P : α → S → Hp → Hp → Prop} (h : End K mg pa B0 W σ Z (.ok a s) P) {H : Hp} (k : Ok K pa B0 Z H σ s) : P a s Z H := h H Z k (ZExt.refl B0 Z)
end
end FL
set_option maxHeartbeats 1000000
/-! FL2: names, constants, operators, tests, displays. -/
namespace FL
open PySem PySem.Spec PyProof.Rows L2

/-! ### combinators -/
def lift {α : Type} (o : Option α) : B α := fun s => match o with
  | some a => .ok a s
  | none => .bad
def eC (d : D) : B D := fun s => .ok d s
/-- a name's value; a list of its own becomes a value for good -/
def eV (i : Nat) : B D := fun s => match s.env[i]? with
  | some (.v d) => .ok d s
  | some (.l xs) => .ok (.list xs) { s with env := s.env.set i (.v (.list xs)) }
  | _ => .bad
/-- a container that is only looked at -/
inductive Src where
  | d (d : D)
  | i (i : Nat)
  | p
/-- a name, to be looked at -/
def eN (i : Nat) : B Src := fun s => match s.env[i]? with
  | some (.v d) => .ok (.d d) s
  | some (.l _) => .ok (.i i) s
  | _ => .bad
/-- the name of the pool -/
def eP (i : Nat) : B Src := fun s => match s.env[i]? with
  | some (.v (.dict [(.none, .none)])) => .ok .p s
  | _ => .bad
def rd : Src → B D
  | .d d => fun s => .ok d s
  | .i i => fun s => match s.env[i]? with
    | some (.l xs) => .ok (.list xs) s
    | some (.v d) => .ok d s
    | _ => .bad
  | .p => fun s => match s.pool with
    | some ps => .ok (.list (ps.map PyData.int)) s
    | none => .bad
def toSrc (f : B D) : B Src := do
  let d ← f
  pure (.d d)

/-! ### what is looked at -/
def RepH (K : PySem.W.Frag) (pa : Addr) (Z H : Hp) (v : V) (d : D) : Prop :=
  Rep K pa Z v d ∨ ∃ p vs ds, v = .ref p ∧ d = .list ds ∧ H p = some (.lst vs) ∧ RepA K pa Z vs ds
def RepS (K : PySem.W.Frag) (pa : Addr) (Z : Hp) (σ : VSt) (v : V) : Src → Prop
  | .d d => Rep K pa Z v d
  | .i i => σ[i]? = some (some v)
  | .p => v = .ref pa
section
variable {K : PySem.W.Frag} {mg : Str → Option Value} {pa : Addr} {B0 : Hp} {W : WX} {σ : VSt} {Z Z' H : Hp} {s s' : S} {v : V} {d : D}
theorem RepS.mono (z : Same Z Z') : ∀ {src : Src}, RepS K pa Z σ v src → RepS K pa Z' σ v src
  | .d _, h => Rep.mono z h
  | .i _, h => h
  | .p, h => h
theorem RepH.list {ds : List D} (z : Same Z H) (h : RepH K pa Z H v (.list ds)) : ∃ p vs, v = .ref p ∧ H p = some (.lst vs) ∧ RepA K pa Z vs ds := by
  rcases h with h | ⟨p, vs, es, h1, h2, h3, h4⟩
  · cases h with
    | lst h r => exact ⟨_, _, rfl, z _ _ h, r⟩
  · cases h2
    exact ⟨p, vs, h1, h3, h4⟩
theorem RepH.of (h : Rep K pa Z v d) : RepH K pa Z H v d := .inl h
theorem RepH.rep (h : RepH K pa Z H v d) (hn : ∀ ds, d ≠ .list ds) : Rep K pa Z v d := by
  rcases h with h | ⟨p, vs, es, h1, h2, h3, h4⟩
  · exact h
  · exact absurd h2 (hn es)
theorem RepH.dp (h : RepH K pa Z H v d) (c : d.canLay0 = true) (z : Same Z H) : Dp K H v d := by
  rcases h with h | ⟨p, vs, es, h1, h2, h3, h4⟩
  · exact Rep.dp d c h z
  · subst h1 h2
    exact .lst (.of h3) (Rep.dp.goA es (by simpa [PyData.canLay0] using c) h4 z)
/-- what is read is what stands there -/
theorem rd_ok (k : Ok K pa B0 Z H σ s) {src : Src} (r : RepS K pa Z σ v src) (e : rd src s = .ok d s') : s' = s ∧ RepH K pa Z H v d := by
  cases src with
  | d x =>
    cases e
    exact ⟨rfl, .inl r⟩
  | i i =>
    have r : σ[i]? = some (some v) := r
    cases q : s.env[i]? with
    | none => simp only [rd, q] at e; cases e
    | some sl =>
      cases sl with
      | no => simp only [rd, q] at e; cases e
      | v x =>
        simp only [rd, q] at e
        cases e
        obtain ⟨w, h1, h2⟩ := k.val i _ q
        rw [r] at h1
        cases h1
        exact ⟨rfl, .inl h2⟩
      | l xs =>
        simp only [rd, q] at e
        cases e
        obtain ⟨p, vs, h1, h2, _, _, h5⟩ := k.own i _ q
        rw [r] at h1
        cases h1
        exact ⟨rfl, .inr ⟨p, vs, xs, rfl, rfl, h2, h5⟩⟩
  | p =>
    have r : v = .ref pa := r
    cases q : s.pool with
    | none => simp only [rd, q] at e; cases e
    | some ps =>
      simp only [rd, q] at e
      cases e
      exact ⟨rfl, .inr ⟨pa, _, _, r, rfl, (k.pool ps q).1, RepA.ints ps⟩⟩
/-- a rd, then something -/
theorem End.rd {α : Type} {src : Src} {k : D → S → R S α} {P : α → S → Hp → Hp → Prop} (ok : Ok K pa B0 Z H σ s) (r : RepS K pa Z σ v src) (h : End K mg pa B0 W σ Z ((rd src s).bind k) P) :
    ∃ d, RepH K pa Z H v d ∧ End K mg pa B0 W σ Z (k d s) P := by
  cases e : FL.rd src s with
  | ok d s' =>
    obtain ⟨h1, h2⟩ := rd_ok ok r e
    subst h1
    rw [e] at h
    exact ⟨d, h2, h⟩
  | ex x s' =>
    cases src with
    | d x => cases e
    | i i =>
      simp only [FL.rd] at e
      split at e <;> cases e
    | p =>
      simp only [FL.rd] at e
      split at e <;> cases e
  | bad =>
    rw [e] at h
    exact False.elim h
theorem End.lift {α β : Type} {o : Option α} {k : α → S → R S β} {P : β → S → Hp → Hp → Prop} (h : End K mg pa B0 W σ Z ((FL.lift o s).bind k) P) : ∃ a, o = some a ∧ End K mg pa B0 W σ Z (k a s) P := by
  cases o with
  | none => exact False.elim h
  | some a => exact ⟨a, rfl, h⟩
theorem End.lift1 {α : Type} {o : Option α} {P : α → S → Hp → Hp → Prop} (h : End K mg pa B0 W σ Z (FL.lift o s) P) : ∃ a, o = some a ∧ End K mg pa B0 W σ Z (.ok a s) P := by
  cases o with
  | none => exact False.elim h
  | some a => exact ⟨a, rfl, h⟩
/-- what a pure step gives -/
theorem End.grow {P : D → S → Hp → Hp → Prop} {H' : Hp} (h : End K mg pa B0 W σ Z (.ok d s) P) (k : Ok K pa B0 Z H σ s) (g : Grow Z H Z' H') : P d s Z' H' := h H' Z' (k.grow g) (k.ext g)
end
structure FB (X : Cx) (e : Expr) (f : B Src) : Prop where
  pe : ∀ pa B0 W, Takes X W → PE X e (fun σ H Q => ∃ Z s, Ok X.K pa B0 Z H σ s ∧ End X.K X.mg pa B0 W σ Z (f s) fun src _ Z' H' => ∀ v, RepS X.K pa Z' σ v src → Q v H')

section
variable {X : Cx} {e a b c : Expr} {es : List Expr} {f fa fb fc : B D} {pos : Pos}
theorem FE.toB (h : FE X e f) : FB X e (toSrc f) := ⟨fun pa B0 W tk => ⟨fun pins s σ H Q I ⟨Z, st, k, w⟩ => (h.pe pa B0 W tk).run pins s σ H Q I ⟨Z, st, k, (End.bind w).imp fun d s1 Z1 H1 k1 _ q v r => q.pure k1 v r⟩⟩⟩

/-! ### names and constants -/
theorem fe_var (i : Nat) {x : Str} (hN : X.N[i]? = some x := by rfl) (hv : Vis X.env.scope x := by first | exact Or.inl rfl | exact Or.inr (Or.inl rfl) | exact Or.inr (Or.inr rfl)) (hd : (x == ("__debug__" : Str)) = false := by decide)
    (hcd : (x == ("__classdict__" : Str)) = false := by decide) : FE X (.Name x pos) (eV i) := by
  refine ⟨fun pa B0 W tk => ⟨fun pins s σ H Q I ⟨Z, st, k, w⟩ => (pe_var (pos := pos) hN hv hd hcd).run pins s σ H Q I ?_⟩⟩
  unfold eV at w
  cases q : st.env[i]? with
  | none => rw [q] at w; exact False.elim w
  | some sl =>
    rw [q] at w
    cases sl with
    | no => exact False.elim w
    | v d =>
      obtain ⟨v, h1, h2⟩ := k.val i d q
      exact ⟨v, h1, End.pure w k v h2⟩
    | l xs =>
      obtain ⟨Z', p, k', z, h1, h2⟩ := k.toV q
      exact ⟨.ref p, h1, w H Z' k' z _ h2⟩
theorem fb_var (i : Nat) {x : Str} (hN : X.N[i]? = some x := by rfl) (hv : Vis X.env.scope x := by first | exact Or.inl rfl | exact Or.inr (Or.inl rfl) | exact Or.inr (Or.inr rfl)) (hd : (x == ("__debug__" : Str)) = false := by decide)
    (hcd : (x == ("__classdict__" : Str)) = false := by decide) : FB X (.Name x pos) (eN i) := by
  refine ⟨fun pa B0 W tk => ⟨fun pins s σ H Q I ⟨Z, st, k, w⟩ => (pe_var (pos := pos) hN hv hd hcd).run pins s σ H Q I ?_⟩⟩
  unfold eN at w
  cases q : st.env[i]? with
  | none => rw [q] at w; exact False.elim w
  | some sl =>
    rw [q] at w
    cases sl with
    | no => exact False.elim w
    | v d =>
      obtain ⟨v, h1, h2⟩ := k.val i d q
      exact ⟨v, h1, End.pure w k v h2⟩
    | l xs =>
      obtain ⟨p, vs, h1, _⟩ := k.own i xs q
      exact ⟨.ref p, h1, End.pure w k _ h1⟩
theorem fb_pool (i : Nat) {x : Str} (hN : X.N[i]? = some x := by rfl) (hv : Vis X.env.scope x := by first | exact Or.inl rfl | exact Or.inr (Or.inl rfl) | exact Or.inr (Or.inr rfl)) (hd : (x == ("__debug__" : Str)) = false := by decide)
    (hcd : (x == ("__classdict__" : Str)) = false := by decide) : FB X (.Name x pos) (eP i) := by
  refine ⟨fun pa B0 W tk => ⟨fun pins s σ H Q I ⟨Z, st, k, w⟩ => (pe_var (pos := pos) hN hv hd hcd).run pins s σ H Q I ?_⟩⟩
  unfold eP at w
  split at w
  · rename_i q
    obtain ⟨v, h1, h2⟩ := k.val i _ q
    refine ⟨v, h1, End.pure w k v ?_⟩
    cases h2 with
    | pool => rfl
  · exact False.elim w
theorem fe_lit {d : D} {v : V} (hp : PE X e (tC v)) (r : ∀ pa Z, Rep X.K pa Z v d) : FE X e (eC d) :=
  ⟨fun pa B0 W tk => ⟨fun pins s σ H Q I ⟨Z, st, k, w⟩ => hp.run pins s σ H Q I (End.pure w k v (r pa Z))⟩⟩
theorem fe_int {i j} : FE X (.Constant (.int i) j pos) (eC (.int i)) := fe_lit pe_int fun _ _ => .int i
theorem fe_bl {b j} : FE X (.Constant (.bool b) j pos) (eC (.bool b)) := fe_lit pe_bl fun _ _ => .bl b
theorem fe_non {j} : FE X (.Constant .none j pos) (eC .none) := fe_lit pe_non fun _ _ => .non
theorem fe_str {x j} : FE X (.Constant (.str x) j pos) (eC (.str x)) := fe_lit pe_str fun _ _ => .str x
/-- a module's int -/
theorem fe_glob {x : Str} {i : Int} {t : Tok} (hg : Gl X x) (hm : X.mg x = some (.int i t)) (hd : (x == ("__debug__" : Str)) = false := by decide) : FE X (.Name x pos) (eC (.int i)) :=
  fe_lit (pe_glob (v := .int i) hg hm ⟨t, rfl⟩ hd) fun _ _ => .int i

/-! ### operators on data -/
/-- what a one-place, two-place operation of the layer does on data -/
def Op1 (K : PySem.W.Frag) (r : V → Hp → VK → Prop) (g : D → Option D) : Prop :=
  ∀ (pa : Addr) (x : V) (d z : D) (Z H : Hp) (Q : VK), Same Z H → RepH K pa Z H x d → g d = some z → (∀ v Z' H', Grow Z H Z' H' → Rep K pa Z' v z → Q v H') → r x H Q
def Op2 (K : PySem.W.Frag) (r : R2) (g : D → D → Option D) : Prop :=
  ∀ (pa : Addr) (x y : V) (d e z : D) (Z H : Hp) (Q : VK), Same Z H → RepH K pa Z H x d → RepH K pa Z H y e → g d e = some z → (∀ v Z' H', Grow Z H Z' H' → Rep K pa Z' v z → Q v H') → r x y H Q
def Cmp2 (K : PySem.W.Frag) (r : R2) (g : D → D → Option Bool) : Prop :=
  ∀ (pa : Addr) (x y : V) (d e : D) (z : Bool) (Z H : Hp) (Q : VK), Same Z H → RepH K pa Z H x d → RepH K pa Z H y e → g d e = some z → Q (.bl z) H → r x y H Q
def e1 (g : D → Option D) (f : B D) : B D := do
  let x ← f
  lift (g x)
def e2 (g : D → D → Option D) (fa fb : B D) : B D := do
  let x ← fa
  let y ← fb
  lift (g x y)
/-- a comparison: both sides only looked at -/
def eCmp (g : D → D → Option Bool) (fa fb : B Src) : B Bool := do
  let x ← fa
  let y ← fb
  let d ← rd x
  let e ← rd y
  lift (g d e)
def eBool (f : B Bool) : B D := do
  let b ← f
  pure (.bool b)
theorem fe_op {op : Operator} {r : R2} {g : D → D → Option D} (ho : OpR X (binaryOp op) r) (hg : Op2 X.K r g) (ha : FE X a fa) (hb : FE X b fb) : FE X (.BinOp a op b pos) (e2 g fa fb) := by
  refine ⟨fun pa B0 W tk => ⟨fun pins s σ H Q I ⟨Z, st, k, w⟩ => (pe_op ho (ha.pe pa B0 W tk) (hb.pe pa B0 W tk)).run pins s σ H Q I ?_⟩⟩
  refine ⟨Z, st, k, (End.bind w).imp fun d s1 Z1 H1 k1 _ w1 v rv => ⟨Z1, s1, k1, (End.bind w1).imp fun e s2 Z2 H2 k2 z2 w2 u ru => ?_⟩⟩
  obtain ⟨z, hz, w3⟩ := End.lift1 w2
  exact hg pa v u d e z Z2 H2 Q k2.sub (.of (rv.mono z2.zz)) (.of ru) hz fun t Z' H' gr rt => w3.grow k2 gr t rt
theorem fe_un {op : UnaryOp} {r : V → Hp → VK → Prop} {g : D → Option D} (ho : UnR X (unaryOp op) r) (hg : Op1 X.K r g) (ha : FE X a fa) : FE X (.UnaryOp op a pos) (e1 g fa) := by
  refine ⟨fun pa B0 W tk => ⟨fun pins s σ H Q I ⟨Z, st, k, w⟩ => (pe_un ho (ha.pe pa B0 W tk)).run pins s σ H Q I ?_⟩⟩
  refine ⟨Z, st, k, (End.bind w).imp fun d s1 Z1 H1 k1 _ w1 v rv => ?_⟩
  obtain ⟨z, hz, w3⟩ := End.lift1 w1
  exact hg pa v d z Z1 H1 Q k1.sub (.of rv) hz fun t Z' H' gr rt => w3.grow k1 gr t rt
variable {sa sb sc : B Src}
theorem ft_cmp {op : CmpOp} {r : R2} {g : D → D → Option Bool} (ho : OpR X (compareOp op) r) (hg : Cmp2 X.K r g) (ha : FB X a sa) (hb : FB X b sb) (hm : behindInMarks op b = false) : FT X (.Compare a [op] [b] pos) (eCmp g sa sb) := by
  refine ⟨fun pa B0 W tk => ⟨fun pins s σ H Q I ⟨Z, st, k, w⟩ => (pt_cmpR ho (ha.pe pa B0 W tk) (hb.pe pa B0 W tk) hm).run pins s σ H Q I ?_⟩⟩
  refine ⟨Z, st, k, (End.bind w).imp fun x s1 Z1 H1 k1 _ w1 v rv => ⟨Z1, s1, k1, (End.bind w1).imp fun y s2 Z2 H2 k2 z2 w2 u ru => ?_⟩⟩
  obtain ⟨d, hd, w3⟩ := End.rd k2 (rv.mono z2.zz) w2
  obtain ⟨e, he, w4⟩ := End.rd k2 ru w3
  obtain ⟨z, hz, w5⟩ := End.lift1 w4
  exact hg pa v u d e z Z2 H2 _ k2.sub hd he hz ⟨z, rfl, End.pure w5 k2⟩
theorem fe_cmp {op : CmpOp} {r : R2} {g : D → D → Option Bool} (ho : OpR X (compareOp op) r) (hg : Cmp2 X.K r g) (ha : FB X a sa) (hb : FB X b sb) (hm : behindInMarks op b = false) : FE X (.Compare a [op] [b] pos) (eBool (eCmp g sa sb)) := by
  refine ⟨fun pa B0 W tk => ⟨fun pins s σ H Q I ⟨Z, st, k, w⟩ => (pe_cmpR ho (ha.pe pa B0 W tk) (hb.pe pa B0 W tk) hm).run pins s σ H Q I ?_⟩⟩
  refine ⟨Z, st, k, (End.bind (End.bind w)).imp fun x s1 Z1 H1 k1 _ w1 v rv => ⟨Z1, s1, k1, (End.bind w1).imp fun y s2 Z2 H2 k2 z2 w2 u ru => ?_⟩⟩
  obtain ⟨d, hd, w3⟩ := End.rd k2 (rv.mono z2.zz) w2
  obtain ⟨e, he, w4⟩ := End.rd k2 ru w3
  obtain ⟨z, hz, w5⟩ := End.lift1 w4
  exact hg pa v u d e z Z2 H2 Q k2.sub hd he hz (End.pure (End.pure w5 k2) k2 _ (.bl z))
/-- a op1 b op2 c: b is asked once -/
def eChain (g g' : D → D → Option Bool) (fa fb fc : B D) : B Bool := do
  let x ← fa
  let y ← fb
  let k ← lift (g x y)
  if k then do
    let z ← fc
    lift (g' y z)
  else pure false
theorem chain_aux {r r' : R2} {g g' : D → D → Option Bool} (hg : Cmp2 X.K r g) (hg' : Cmp2 X.K r' g') {pa : Addr} {B0 : Hp} {W : WX} (tk : Takes X W) (σ : VSt) (H : Hp) (Q : Bool → Hp → Prop) (Z : Hp) (st : S) (k : Ok X.K pa B0 Z H σ st)
    (w : End X.K X.mg pa B0 W σ Z (eChain g g' fa fb fc st) fun b _ _ H' => Q b H') :
    tChain r r' (tE X.K X.mg pa B0 W fa) (tE X.K X.mg pa B0 W fb) (tE X.K X.mg pa B0 W fc) σ H fun x H' => ∃ k, x = .bl k ∧ Q k H' := by
  refine ⟨Z, st, k, (End.bind w).imp fun d s1 Z1 H1 k1 _ w1 v rv => ⟨Z1, s1, k1, (End.bind w1).imp fun e s2 Z2 H2 k2 z2 w2 u ru => ?_⟩⟩
  obtain ⟨z, hz, w3⟩ := End.lift w2
  refine hg pa v u d e z Z2 H2 _ k2.sub (.of (rv.mono z2.zz)) (.of ru) hz ⟨z, rfl, ?_⟩
  cases z with
  | false => exact iteF ⟨false, rfl, End.pure w3 k2⟩
  | true =>
    refine iteT ⟨Z2, s2, k2, (End.bind w3).imp fun x s3 Z3 H3 k3 z3 w4 t rt => ?_⟩
    obtain ⟨z', hz', w5⟩ := End.lift1 w4
    exact hg' pa u t e x z' Z3 H3 _ k3.sub (.of (ru.mono z3.zz)) (.of rt) hz' ⟨z', rfl, End.pure w5 k3⟩
theorem ft_chain {op op' : CmpOp} {r r' : R2} {g g' : D → D → Option Bool} (ho : OpR X (compareOp op) r) (hg : Cmp2 X.K r g) (ho' : OpR X (compareOp op') r') (hg' : Cmp2 X.K r' g') (ha : FE X a fa) (hb : FE X b fb) (hc : FE X c fc)
    (hm : lastMarks [op, op'] [b, c] = false := by with_unfolding_all rfl) : FT X (.Compare a [op, op'] [b, c] pos) (eChain g g' fa fb fc) :=
  ⟨fun pa B0 W tk => ⟨fun pins s σ H Q I ⟨Z, st, k, w⟩ => (pt_chain ho ho' (ha.pe pa B0 W tk) (hb.pe pa B0 W tk) (hc.pe pa B0 W tk) hm).run pins s σ H Q I (chain_aux hg hg' tk σ H Q Z st k w)⟩⟩
theorem fe_chain {op op' : CmpOp} {r r' : R2} {g g' : D → D → Option Bool} (ho : OpR X (compareOp op) r) (hg : Cmp2 X.K r g) (ho' : OpR X (compareOp op') r') (hg' : Cmp2 X.K r' g') (ha : FE X a fa) (hb : FE X b fb) (hc : FE X c fc)
    (hm : lastMarks [op, op'] [b, c] = false := by with_unfolding_all rfl) : FE X (.Compare a [op, op'] [b, c] pos) (eBool (eChain g g' fa fb fc)) := by
  refine ⟨fun pa B0 W tk => ⟨fun pins s σ H Q I ⟨Z, st, k, w⟩ => ?_⟩⟩
  have h := (pe_chain (pos := pos) ho ho' (ha.pe pa B0 W tk) (hb.pe pa B0 W tk) (hc.pe pa B0 W tk) hm).run pins s σ H (fun x H' => ∃ k, x = .bl k ∧ Q (.bl k) H') I
    (chain_aux hg hg' tk σ H (fun b H' => Q (.bl b) H') Z st k ((End.bind w).imp fun d s1 Z1 H1 k1 _ q => q.pure k1 _ (.bl d)))
  refine thn h fun v s1 ⟨x, H1, I1, r1, b, e, q⟩ => ?_
  subst e
  exact ⟨_, H1, I1, r1, q⟩

/-! ### tests -/
/-- a value's truth -/
def truth : D → Option Bool
  | .none => some false
  | .bool b => some b
  | .int i => some (i != 0)
  | .str x => if x.length ≤ sizeLine then some ((x.length : Int) != 0) else none
  | .list ds => some (!ds.isEmpty)
  | .tuple ds => some (!ds.isEmpty)
  | .dict _ => none
theorem RepA.empty {K : PySem.W.Frag} {pa : Addr} {Z : Hp} {vs : List V} {ds : List D} (r : RepA K pa Z vs ds) : vs.isEmpty = ds.isEmpty := by
  cases r <;> rfl
theorem truth_ok {K : PySem.W.Frag} {pa : Addr} {Z H : Hp} {x : V} {d : D} {b : Bool} (z : Same Z H) (r : RepH K pa Z H x d) (e : truth d = some b) : TruV K x H b := by
  cases d with
  | none =>
    cases r.rep (fun _ q => nomatch q)
    cases e
    exact rfl
  | bool k =>
    cases r.rep (fun _ q => nomatch q)
    cases e
    exact rfl
  | int i =>
    cases r.rep (fun _ q => nomatch q)
    cases e
    exact rfl
  | str y =>
    cases r.rep (fun _ q => nomatch q)
    simp only [truth] at e
    split at e
    · rename_i h
      cases e
      exact ⟨h, rfl⟩
    · cases e
  | list ds =>
    obtain ⟨p, vs, rfl, h, ra⟩ := r.list z
    cases e
    exact .inl ⟨vs, .of h, by rw [ra.empty]⟩
  | tuple ds =>
    cases r.rep (fun _ q => nomatch q) with
    | tup h ra =>
      cases e
      exact .inr (.inl ⟨_, sqT_mono z h.sq, by rw [ra.empty]⟩)
  | dict kvs => cases e
def eTruth (f : B Src) : B Bool := do
  let x ← f
  let d ← rd x
  lift (truth d)
theorem ft_val (ha : FB X a sa) (he : ∀ whole, isTrue a X.env whole = (do let v ← whole; standAt a.pos; holding [v] (truthy v)) := by intro _; rfl) : FT X a (eTruth sa) := by
  refine ⟨fun pa B0 W tk => ⟨fun pins s σ H Q I ⟨Z, st, k, w⟩ => (pt_truth (ha.pe pa B0 W tk) he).run pins s σ H Q I ?_⟩⟩
  refine ⟨Z, st, k, (End.bind w).imp fun x s1 Z1 H1 k1 _ w1 v rv => ?_⟩
  obtain ⟨d, hd, w2⟩ := End.rd k1 rv w1
  obtain ⟨z, hz, w3⟩ := End.lift1 w2
  exact ⟨z, truth_ok k1.sub hd hz, End.pure w3 k1⟩
variable {ta tb : B Bool} {rest : List Expr}
def bNot (t : B Bool) : B Bool := do
  let b ← t
  pure (!b)
def bAnd (t u : B Bool) : B Bool := do
  let b ← t
  if b then u else pure false
def bOr (t u : B Bool) : B Bool := do
  let b ← t
  if b then pure true else u
theorem FW.ft (h : FW X e ta) : FT X e ta := ⟨fun pa B0 W tk => (h.pw pa B0 W tk).pt⟩
theorem ft_not (ha : FT X a ta) : FT X (.UnaryOp .Not a pos) (bNot ta) := by
  refine ⟨fun pa B0 W tk => ⟨fun pins s σ H Q I ⟨Z, st, k, w⟩ => (pt_not (ha.pt pa B0 W tk)).run pins s σ H Q I ?_⟩⟩
  exact ⟨Z, st, k, (End.bind w).imp fun b s1 Z1 H1 k1 _ w1 => w1.pure k1⟩
theorem fw_and1 (ha : FT X a ta) : FW X (.BoolOp .And [a] pos) ta := ⟨fun pa B0 W tk => pw_and1 (ha.pt pa B0 W tk)⟩
theorem fw_or1 (ha : FT X a ta) : FW X (.BoolOp .Or [a] pos) ta := ⟨fun pa B0 W tk => pw_or1 (ha.pt pa B0 W tk)⟩
theorem fw_and (ha : FT X a ta) (hb : FW X (.BoolOp .And (b :: rest) pos) tb) : FW X (.BoolOp .And (a :: b :: rest) pos) (bAnd ta tb) := by
  refine ⟨fun pa B0 W tk => ⟨fun wh pins s σ H Q I ⟨Z, st, k, w⟩ => (pw_and (ha.pt pa B0 W tk) (hb.pw pa B0 W tk)).run wh pins s σ H Q I ?_⟩⟩
  refine ⟨Z, st, k, (End.bind w).imp fun c s1 Z1 H1 k1 _ w1 => ?_⟩
  cases c with
  | true => exact iteT ⟨Z1, s1, k1, w1⟩
  | false => exact iteF (End.pure w1 k1)
theorem fw_or (ha : FT X a ta) (hb : FW X (.BoolOp .Or (b :: rest) pos) tb) : FW X (.BoolOp .Or (a :: b :: rest) pos) (bOr ta tb) := by
  refine ⟨fun pa B0 W tk => ⟨fun wh pins s σ H Q I ⟨Z, st, k, w⟩ => (pw_or (ha.pt pa B0 W tk) (hb.pw pa B0 W tk)).run wh pins s σ H Q I ?_⟩⟩
  refine ⟨Z, st, k, (End.bind w).imp fun c s1 Z1 H1 k1 _ w1 => ?_⟩
  cases c with
  | true => exact iteT (End.pure w1 k1)
  | false => exact iteF ⟨Z1, s1, k1, w1⟩
/-- a if t else b -/
def eIf (t : B Bool) (fa fb : B D) : B D := do
  let c ← t
  if c then fa else fb
theorem fe_if (hc : FT X c ta) (ha : FE X a fa) (hb : FE X b fb) : FE X (.IfExp c a b pos) (eIf ta fa fb) := by
  refine ⟨fun pa B0 W tk => ⟨fun pins s σ H Q I ⟨Z, st, k, w⟩ => (pe_ifExp (hc.pt pa B0 W tk) (ha.pe pa B0 W tk) (hb.pe pa B0 W tk)).run pins s σ H Q I ?_⟩⟩
  refine ⟨Z, st, k, (End.bind w).imp fun d s1 Z1 H1 k1 _ w1 => ?_⟩
  cases d with
  | true => exact iteT ⟨Z1, s1, k1, w1⟩
  | false => exact iteF ⟨Z1, s1, k1, w1⟩
/-- and, or, not as values; all but the last True or False -/
def asBool : D → Option Bool
  | .bool b => some b
  | _ => none
def vAnd (fa fb : B D) : B D := do
  let x ← fa
  let b ← lift (asBool x)
  if b then fb else pure (.bool false)
def vOr (fa fb : B D) : B D := do
  let x ← fa
  let b ← lift (asBool x)
  if b then pure (.bool true) else fb
theorem asBool_rep {K : PySem.W.Frag} {pa : Addr} {Z : Hp} {v : V} {d : D} {b : Bool} (r : Rep K pa Z v d) (e : asBool d = some b) : v = .bl b := by
  cases r <;> simp_all [asBool, poolD, scrD]
theorem asBool_eq {d : D} {b : Bool} (e : asBool d = some b) : d = .bool b := by
  cases d <;> simp_all [asBool]
theorem fe_one {op} (h : FE X a fa) : FE X (.BoolOp op [a] pos) fa := ⟨fun pa B0 W tk => pe_one (h.pe pa B0 W tk)⟩
theorem fe_and (ha : FE X a fa) (hb : FE X (.BoolOp .And (b :: rest) pos) fb) : FE X (.BoolOp .And (a :: b :: rest) pos) (vAnd fa fb) := by
  refine ⟨fun pa B0 W tk => ⟨fun pins s σ H Q I ⟨Z, st, k, w⟩ => (pe_and (ha.pe pa B0 W tk) (hb.pe pa B0 W tk)).run pins s σ H Q I ?_⟩⟩
  refine ⟨Z, st, k, (End.bind w).imp fun d s1 Z1 H1 k1 _ w1 v rv => ?_⟩
  obtain ⟨c, hc, w2⟩ := End.lift w1
  refine ⟨c, asBool_rep rv hc, ?_⟩
  cases c with
  | true => exact iteT ⟨Z1, s1, k1, w2⟩
  | false => exact iteF (End.pure w2 k1 _ (.bl false))
theorem fe_or (ha : FE X a fa) (hb : FE X (.BoolOp .Or (b :: rest) pos) fb) : FE X (.BoolOp .Or (a :: b :: rest) pos) (vOr fa fb) := by
  refine ⟨fun pa B0 W tk => ⟨fun pins s σ H Q I ⟨Z, st, k, w⟩ => (pe_or (ha.pe pa B0 W tk) (hb.pe pa B0 W tk)).run pins s σ H Q I ?_⟩⟩
  refine ⟨Z, st, k, (End.bind w).imp fun d s1 Z1 H1 k1 _ w1 v rv => ?_⟩
  obtain ⟨c, hc, w2⟩ := End.lift w1
  refine ⟨c, asBool_rep rv hc, ?_⟩
  cases c with
  | true => exact iteT (End.pure w2 k1 _ (.bl true))
  | false => exact iteF ⟨Z1, s1, k1, w2⟩
/-- not e as a value, by truth -/
theorem fe_not (ha : FB X a sa) : FE X (.UnaryOp .Not a pos) (eBool (bNot (eTruth sa))) := by
  refine ⟨fun pa B0 W tk => ⟨fun pins s σ H Q I ⟨Z, st, k, w⟩ => (pe_notT (ha.pe pa B0 W tk)).run pins s σ H Q I ?_⟩⟩
  refine ⟨Z, st, k, (End.bind (End.bind (End.bind w))).imp fun x s1 Z1 H1 k1 _ w1 v rv => ?_⟩
  obtain ⟨d, hd, w2⟩ := End.rd k1 rv w1
  obtain ⟨z, hz, w3⟩ := End.lift1 w2
  exact ⟨z, truth_ok k1.sub hd hz, End.pure (End.pure (End.pure w3 k1) k1) k1 _ (.bl _)⟩

/-! ### lists of expressions, displays -/
def eNil : B (List D) := fun s => .ok [] s
def eCons (f : B D) (r : B (List D)) : B (List D) := do
  let x ← f
  let xs ← r
  pure (x :: xs)
variable {fr : B (List D)}
theorem fa_nil : FA X [] eNil := ⟨fun pa B0 W tk => ⟨fun pos pins s σ H Q I ⟨Z, st, k, w⟩ => pa_nil.run pos pins s σ H Q I (End.pure w k [] .nil)⟩⟩
theorem fa_cons (ha : FE X e f) (hr : FA X es fr) (hs : starEach (e :: es) X.env = (false, eval e X.env) :: starEach es X.env := by rfl) : FA X (e :: es) (eCons f fr) := by
  refine ⟨fun pa B0 W tk => ⟨fun pos pins s σ H Q I ⟨Z, st, k, w⟩ => (pa_cons (ha.pe pa B0 W tk) (hr.pa pa B0 W tk) hs).run pos pins s σ H Q I ?_⟩⟩
  refine ⟨Z, st, k, (End.bind w).imp fun d s1 Z1 H1 k1 _ w1 v rv => ⟨Z1, s1, k1, (End.bind w1).imp fun ds s2 Z2 H2 k2 z2 w2 vs rvs => End.pure w2 k2 _ (.cons (rv.mono z2.zz) rvs)⟩⟩
def few (ds : List D) : Option (List D) := if ds.length ≤ sizeLine then some ds else none
def eTup (f : B (List D)) : B D := do
  let ds ← f
  let es ← lift (few ds)
  pure (.tuple es)
def eLst (f : B (List D)) : B (List D) := do
  let ds ← f
  lift (few ds)
theorem few_some {ds es : List D} (h : few ds = some es) : es = ds ∧ ds.length ≤ sizeLine := by
  unfold few at h
  split at h
  · rename_i q
    cases h
    exact ⟨rfl, q⟩
  · cases h
/-- a new tuple, tracked as an object without a dict -/
theorem Inv.newTup {pins : List (Addr × Obj)} {σ : VSt} {H : Hp} {s : Shared} {xs : List V} {us : List Value} {tk : Nat} (I : Inv X pins σ H s) (r : Vals xs us) (z : xs.length ≤ sizeLine) :
    Inv X pins σ (upd H s.heap.objs.size (.frz { cls := .type "tuple", data := .seq us.toArray } (.tup xs))) { s with heap := s.heap.push { cls := .type "tuple", data := .seq us.toArray }, toks := tk } := by
  refine I.laid (t' := tk) (fun b u e => Heap.get?_push_of_some _ e) (Nat.le_refl _) ⟨Heap.get?_push_size _ rfl, ?_⟩
  exact ⟨z, us, r, ⟨_, Heap.get?_push_size _ rfl, rfl, _, rfl⟩⟩
/-- t, new at p -/
def rTupN (xs : List V) (H : Hp) (Q : VK) : Prop := ∀ p o, H p = none → o.dict = none → Q (.ref p) (upd H p (.frz o (.tup xs)))
theorem rTupN_of {K : PySem.W.Frag} {pa : Addr} {Z H : Hp} {xs : List V} {ds : List D} {Q : VK} (z : Same Z H) (r : RepA K pa Z xs ds) (h : ∀ v Z' H', Grow Z H Z' H' → Rep K pa Z' v (.tuple ds) → Q v H') : rTupN xs H Q := fun p o hp ho => by
  have g := Grow.new1 z (o := .frz o (.tup xs)) hp
  exact h _ _ _ g (.tup (.inl ⟨o, upd_same, ho⟩) (r.mono g.zz))
theorem pe_tupN {x1} {t : TA} (h : PA X es t) : PE X (.Tuple es x1 pos) (fun σ H Q => t σ H fun xs H1 => xs.length ≤ sizeLine ∧ rTupN xs H1 Q) := by
  refine ⟨fun pins s σ H Q I hq => ?_⟩
  refine wpAny_Tuple_spliced (thn (h.run pos pins s σ H _ I hq) fun us s1 ⟨xs, H1, I1, r, z, q⟩ => ⟨by rw [← r.length]; exact z, ?_⟩)
  exact ⟨.ref s1.heap.objs.size, _, FL.Inv.newTup (tk := s1.toks) I1 r z, rfl, q _ _ (I1.hok.fresh (Nat.le_refl _)) rfl⟩
theorem fe_tup {x1} (h : FA X es fr) : FE X (.Tuple es x1 pos) (eTup fr) := by
  refine ⟨fun pa B0 W tk => ⟨fun pins s σ H Q I ⟨Z, st, k, w⟩ => (pe_tupN (h.pa pa B0 W tk)).run pins s σ H Q I ?_⟩⟩
  refine ⟨Z, st, k, (End.bind w).imp fun ds s1 Z1 H1 k1 _ w1 vs rvs => ?_⟩
  obtain ⟨es, he, w2⟩ := End.lift w1
  obtain ⟨rfl, hz⟩ := few_some he
  exact ⟨by rw [rvs.length]; exact hz, rTupN_of k1.sub rvs fun v Z' H' g r => End.grow w2 k1 g v r⟩
theorem fo_lst (h : FA X es fr) : FO X (.List es pos) (eLst fr) := by
  refine ⟨fun pa B0 W tk => ⟨fun pins s σ H Q I ⟨Z, st, k, w⟩ => (pe_lst (h.pa pa B0 W tk)).run pins s σ H Q I ?_⟩⟩
  refine ⟨Z, st, k, (End.bind w).imp fun ds s1 Z1 H1 k1 _ w1 vs rvs => ?_⟩
  obtain ⟨es, he, w2⟩ := End.lift1 w1
  obtain ⟨rfl, hz⟩ := few_some he
  refine ⟨by rw [rvs.length]; exact hz, fun p hp => ?_⟩
  have g := Grow.new0 k1.sub (o := .lst vs) hp
  exact w2 _ _ (k1.grow g) (k1.ext g) p vs upd_same (k1.fresh hp) rvs
/-- a list of one's own, as a value for good -/
def eL (f : B (List D)) : B D := do
  let ds ← f
  pure (.list ds)
theorem FO.fe {fl : B (List D)} (h : FO X e fl) : FE X e (eL fl) := by
  refine ⟨fun pa B0 W tk => ⟨fun pins s σ H Q I ⟨Z, st, k, w⟩ => (h.pe pa B0 W tk).run pins s σ H Q I ?_⟩⟩
  refine ⟨Z, st, k, (End.bind w).imp fun ds s1 Z1 H1 k1 _ w1 p vs hp fr rvs => ?_⟩
  obtain ⟨k2, z⟩ := k1.freezeAt hp fr
  exact w1 H1 _ k2 z _ (.lst upd_same (rvs.mono z.zz))
end
end FL
set_option maxHeartbeats 1000000
/-! FL3: operators, subscripts, built-in calls on data. -/
namespace FL
open PySem PySem.Spec PyProof.Rows L2

/-- room for calls, no repr running -/
structure Rm (k : Nat) (A : Around) : Prop where
  room : Room k A
  g : A.guards = some []

section
variable {X : Cx}
theorem OpR.or2 {f : Value → Value → Sem Value} {r r' : R2} (h : OpR X f r) (h' : OpR X f r') : OpR X f (fun x y H Q => r x y H Q ∨ r' x y H Q) := h.or h'

/-! ### + -/
def rCatN (K : PySem.W.Frag) : R2 := fun x y H Q => ∃ a b xs ys, x = .ref a ∧ y = .ref b ∧ SqT K H a xs ∧ SqT K H b ys ∧ xs.length + ys.length ≤ sizeLine ∧
  (xs = [] → Q (.ref b) H) ∧ (xs ≠ [] → ys = [] → Q (.ref a) H) ∧ (xs ≠ [] → ys ≠ [] → rTupN (xs ++ ys) H Q)
theorem op_catN : OpR X (binaryOp .Add) (rCatN X.K) := by
  intro pins s σ H x y v u Q I rx ry h
  obtain ⟨a, b, xs, ys, rfl, rfl, ha, hb, hz, q0, q1, q2⟩ := h
  cases rx
  cases ry
  obtain ⟨its, r1, p1, _⟩ := I.tuple ha
  obtain ⟨its2, r2, p2, _⟩ := I.tuple hb
  by_cases hx : xs = []
  · subst hx
    cases r1
    exact cat_tup0 p1 p2 ⟨.ref b, H, I, rfl, q0 rfl⟩
  · refine HT.cat_tup p1 p2 (fun z => hx (r1.nil_iff.mp z)) (fun z => ⟨.ref a, H, I, rfl, q1 hx (r2.nil_iff.mp z)⟩) (fun z => ?_) (by rw [← r1.length, ← r2.length]; exact hz)
    exact ⟨.ref s.heap.objs.size, _, FL.Inv.newTup (tk := s.toks) I (r1.append r2) (by rw [List.length_append]; exact hz), rfl, q2 hx (fun w => z (r2.nil_iff.mpr w)) _ _ (I.hok.fresh (Nat.le_refl _)) rfl⟩
def gAdd : D → D → Option D
  | .int i, .int j => some (.int (i + j))
  | .list a, .list b => if a.length + b.length ≤ sizeLine then some (.list (a ++ b)) else none
  | .tuple a, .tuple b => if a.length + b.length ≤ sizeLine then some (.tuple (a ++ b)) else none
  | .str a, .str b => if a.length + b.length ≤ sizeLine then some (.str (a ++ b)) else none
  | _, _ => none
def rAddA (K : PySem.W.Frag) : R2 := fun x y H Q => rI0 (fun i j => .int (i + j)) x y H Q ∨ (rCat x y H Q ∨ (rCatN K x y H Q ∨ ∃ i j, x = .str i ∧ y = .str j ∧ i.length + j.length ≤ sizeLine ∧ Q (.str (i ++ j)) H))
theorem op_addA : OpR X (binaryOp .Add) (rAddA X.K) := op_add.or (op_cat.or (op_catN.or op_add_str))
theorem same_ext {Z H Z' H' : Hp} (g : Grow Z H Z' H') : Same Z Z' := g.zz
theorem g_addA {K : PySem.W.Frag} : Op2 K (rAddA K) gAdd := by
  intro pa x y d e z Z H Q zh rx ry hg q
  cases d with
  | int i =>
    cases e with
    | int j =>
      cases hg
      cases rx.rep (fun _ q => nomatch q)
      cases ry.rep (fun _ q => nomatch q)
      exact .inl ⟨i, j, rfl, rfl, q _ _ _ (Grow.refl zh) (.int _)⟩
    | _ => cases hg
  | str i =>
    cases e with
    | str j =>
      simp only [gAdd] at hg
      split at hg
      · rename_i hz
        cases hg
        cases rx.rep (fun _ q => nomatch q)
        cases ry.rep (fun _ q => nomatch q)
        exact .inr (.inr (.inr ⟨i, j, rfl, rfl, hz, q _ _ _ (Grow.refl zh) (.str _)⟩))
      · cases hg
    | _ => cases hg
  | list a =>
    cases e with
    | list b =>
      simp only [gAdd] at hg
      split at hg
      · rename_i hz
        cases hg
        obtain ⟨p, vs, rfl, hp, ra⟩ := rx.list zh
        obtain ⟨p', ws, rfl, hp', rb⟩ := ry.list zh
        refine .inr (.inl ⟨p, p', vs, ws, rfl, rfl, hp, hp', by rw [ra.length, rb.length]; exact hz, fun l hl => ?_⟩)
        have g := Grow.new1 zh (o := .lst (vs ++ ws)) hl
        exact q _ _ _ g (.lst upd_same ((ra.append rb).mono g.zz))
      · cases hg
    | _ => cases hg
  | tuple a =>
    cases e with
    | tuple b =>
      simp only [gAdd] at hg
      split at hg
      · rename_i hz
        cases hg
        cases rx.rep (fun _ q => nomatch q) with
        | tup h1 ra =>
          cases ry.rep (fun _ q => nomatch q) with
          | tup h2 rb =>
            refine .inr (.inr (.inl ⟨_, _, _, _, rfl, rfl, sqT_mono zh h1.sq, sqT_mono zh h2.sq, by rw [ra.length, rb.length]; exact hz, fun e0 => ?_, fun e1 e0 => ?_, fun e1 e2 => rTupN_of zh (ra.append rb) q⟩))
            · subst e0
              cases ra
              exact q _ _ _ (Grow.refl zh) (.tup h2 rb)
            · subst e0
              cases rb
              rw [List.append_nil] at q
              exact q _ _ _ (Grow.refl zh) (.tup h1 ra)
      · cases hg
    | _ => cases hg
  | _ => cases hg

/-! ### arithmetic -/
def ar (C : Int → Int → Prop) [∀ i j, Decidable (C i j)] (f : Int → Int → Int) : D → D → Option D
  | .int i, .int j => if C i j then some (.int (f i j)) else none
  | _, _ => none
theorem g_ar {K : PySem.W.Frag} {C : Int → Int → Prop} [∀ i j, Decidable (C i j)] {f : Int → Int → Int} : Op2 K (rI C fun i j => .int (f i j)) (ar C f) := by
  intro pa x y d e z Z H Q zh rx ry hg q
  cases d with
  | int i =>
    cases e with
    | int j =>
      simp only [ar] at hg
      split at hg
      · rename_i hc
        cases hg
        cases rx.rep (fun _ q => nomatch q)
        cases ry.rep (fun _ q => nomatch q)
        exact ⟨i, j, rfl, rfl, hc, q _ _ _ (Grow.refl zh) (.int _)⟩
      · cases hg
    | _ => cases hg
  | _ => cases hg
def ar0 (f : Int → Int → Int) : D → D → Option D
  | .int i, .int j => some (.int (f i j))
  | _, _ => none
theorem g_ar0 {K : PySem.W.Frag} {f : Int → Int → Int} : Op2 K (rI0 fun i j => .int (f i j)) (ar0 f) := by
  intro pa x y d e z Z H Q zh rx ry hg q
  cases d with
  | int i =>
    cases e with
    | int j =>
      cases hg
      cases rx.rep (fun _ q => nomatch q)
      cases ry.rep (fun _ q => nomatch q)
      exact ⟨i, j, rfl, rfl, q _ _ _ (Grow.refl zh) (.int _)⟩
    | _ => cases hg
  | _ => cases hg
instance (i j : Int) : Decidable (CMul i j) := by unfold CMul; infer_instance
instance (i j : Int) : Decidable (CDivN i j) := by unfold CDivN; infer_instance
instance (i j : Int) : Decidable (CPow i j) := by unfold CPow; infer_instance
instance (i j : Int) : Decidable (CDiv i j) := by unfold CDiv; infer_instance
def gSub := ar0 fun i j => i - j
def gMul := ar CMul fun i j => i * j
def gDiv := ar CDivN fun i j => i.fdiv j
def gMod := ar (fun _ j => j ≠ 0) fun i j => i.fmod j
def gPow := ar CPow fun i j => i ^ j.toNat
def gNeg : D → Option D
  | .int i => some (.int (-i))
  | _ => none
theorem g_neg {K : PySem.W.Frag} : Op1 K (rU fun i => .int (-i)) gNeg := by
  intro pa x d z Z H Q zh rx hg q
  cases d with
  | int i =>
    cases hg
    cases rx.rep (fun _ q => nomatch q)
    exact ⟨i, rfl, q _ _ _ (Grow.refl zh) (.int _)⟩
  | _ => cases hg

/-! ### comparisons -/
def cI (f : Int → Int → Bool) : D → D → Option Bool
  | .int i, .int j => some (f i j)
  | _, _ => none
theorem g_cI {K : PySem.W.Frag} {f : Int → Int → Bool} : Cmp2 K (rI0 fun i j => .bl (f i j)) (cI f) := by
  intro pa x y d e z Z H Q zh rx ry hg q
  cases d with
  | int i =>
    cases e with
    | int j =>
      cases hg
      cases rx.rep (fun _ q => nomatch q)
      cases ry.rep (fun _ q => nomatch q)
      exact ⟨i, j, rfl, rfl, q⟩
    | _ => cases hg
  | _ => cases hg
def cLt := cI fun i j => decide (i < j)
def cLe := cI fun i j => decide (i ≤ j)
def cGt := cI fun i j => decide (j < i)
def cGe := cI fun i j => decide (j ≤ i)
def isStrD : D → Bool
  | .str _ => true
  | _ => false
def okEq (d e : D) : Prop := (SeqAt.shaped d = true ∧ SeqAt.shaped e = true) ∨ (isStrD d = true ∧ isStrD e = true)
instance (d e : D) : Decidable (okEq d e) := by unfold okEq; infer_instance
def cEq (d e : D) : Option Bool := if okEq d e then some (PyData.eqv d e) else none
def cNe (d e : D) : Option Bool := if okEq d e then some (!PyData.eqv d e) else none
theorem isStr_eq {d : D} (h : isStrD d = true) : ∃ x, d = .str x := by
  cases d with
  | str x => exact ⟨x, rfl⟩
  | _ => cases h
theorem g_cEq {K : PySem.W.Frag} : Cmp2 K (fun x y H Q => rEqD K x y H Q ∨ rEq x y H Q) cEq := by
  intro pa x y d e z Z H Q zh rx ry hg q
  unfold cEq at hg
  split at hg
  · rename_i hs
    cases hg
    rcases hs with hs | ⟨h1, h2⟩
    · exact .inl ⟨d, e, rx.dp (SeqAt.canLay_of_shaped hs.1) zh, ry.dp (SeqAt.canLay_of_shaped hs.2) zh, hs.1, hs.2, q⟩
    · obtain ⟨a, rfl⟩ := isStr_eq h1
      obtain ⟨b, rfl⟩ := isStr_eq h2
      cases rx.rep (fun _ q => nomatch q)
      cases ry.rep (fun _ q => nomatch q)
      refine .inr ⟨rfl, ?_⟩
      rw [dec_str]
      exact q
  · cases hg
theorem g_cNe {K : PySem.W.Frag} : Cmp2 K (fun x y H Q => rNeD K x y H Q ∨ rNe x y H Q) cNe := by
  intro pa x y d e z Z H Q zh rx ry hg q
  unfold cNe at hg
  split at hg
  · rename_i hs
    cases hg
    rcases hs with hs | ⟨h1, h2⟩
    · exact .inl ⟨d, e, rx.dp (SeqAt.canLay_of_shaped hs.1) zh, ry.dp (SeqAt.canLay_of_shaped hs.2) zh, hs.1, hs.2, q⟩
    · obtain ⟨a, rfl⟩ := isStr_eq h1
      obtain ⟨b, rfl⟩ := isStr_eq h2
      cases rx.rep (fun _ q => nomatch q)
      cases ry.rep (fun _ q => nomatch q)
      refine .inr ⟨rfl, ?_⟩
      rw [dec_str]
      exact q
  · cases hg
theorem op_eqA (hu : X.A.units + 64 < cLine) : OpR X (compareOp .Eq) (fun x y H Q => rEqD X.K x y H Q ∨ rEq x y H Q) := (op_eqD hu).or op_eq
theorem op_neA (hu : X.A.units + 64 < cLine) : OpR X (compareOp .NotEq) (fun x y H Q => rNeD X.K x y H Q ∨ rNe x y H Q) := (op_neD hu).or op_ne
/-- in, not in: a list, a tuple -/
def rInTD (K : PySem.W.Frag) (neg : Bool) : R2 := fun x y H Q => ∃ d ds, Dp K H x d ∧ (Dp K H y (.list ds) ∧ SeqAt.shaped (.list ds) = true ∨ Dp K H y (.tuple ds) ∧ SeqAt.shaped (.tuple ds) = true) ∧ SeqAt.shaped d = true ∧
  Q (.bl (if neg then !(ds.any fun z => PyData.eqv z d) else ds.any fun z => PyData.eqv z d)) H
theorem room_any {A : Around} {n : Nat} {d : D} (sd : SeqAt.shaped d = true) (hu : A.units + 65 < cLine) : A.units + 1 + min n d.depth < cLine := by
  have h1 := SeqAt.depth_of_shaped sd
  have h2 : min n d.depth ≤ d.depth := Nat.min_le_right _ _
  omega
theorem op_inA (hu : X.A.units + 65 < cLine) : OpR X (compareOp .In) (rInTD X.K false) := by
  intro pins s σ H x y v u Q I rx ry h
  obtain ⟨d, ds, hd, he, sd, q⟩ := h
  obtain ⟨as, r1⟩ := Dp.reads I d x v hd rx
  rcases he with ⟨he, se⟩ | ⟨he, se⟩
  · obtain ⟨bs, r2⟩ := Dp.reads I (.list ds) y u he ry
    exact SeqAt.in_list_reads r2 r1 (SeqAt.canLay_of_shaped se) (SeqAt.canLay_of_shaped sd) (room_any sd hu) ⟨.bl _, H, I, rfl, q⟩
  · obtain ⟨bs, r2⟩ := Dp.reads I (.tuple ds) y u he ry
    exact SeqAt.in_tuple_reads r2 r1 (SeqAt.canLay_of_shaped se) (SeqAt.canLay_of_shaped sd) (room_any sd hu) ⟨.bl _, H, I, rfl, q⟩
theorem op_notInA (hu : X.A.units + 65 < cLine) : OpR X (compareOp .NotIn) (rInTD X.K true) := by
  intro pins s σ H x y v u Q I rx ry h
  obtain ⟨d, ds, hd, he, sd, q⟩ := h
  obtain ⟨as, r1⟩ := Dp.reads I d x v hd rx
  rcases he with ⟨he, se⟩ | ⟨he, se⟩
  · obtain ⟨bs, r2⟩ := Dp.reads I (.list ds) y u he ry
    exact SeqAt.notIn_list_reads r2 r1 (SeqAt.canLay_of_shaped se) (SeqAt.canLay_of_shaped sd) (room_any sd hu) ⟨.bl _, H, I, rfl, q⟩
  · obtain ⟨bs, r2⟩ := Dp.reads I (.tuple ds) y u he ry
    exact SeqAt.notIn_tuple_reads r2 r1 (SeqAt.canLay_of_shaped se) (SeqAt.canLay_of_shaped sd) (room_any sd hu) ⟨.bl _, H, I, rfl, q⟩
def itemsOf : D → Option (List D)
  | .list ds => some ds
  | .tuple ds => some ds
  | _ => none
def cIn (neg : Bool) (d e : D) : Option Bool := (itemsOf e).bind fun ds =>
  if SeqAt.shaped d = true ∧ SeqAt.shaped e = true then some (if neg then !(ds.any fun z => PyData.eqv z d) else ds.any fun z => PyData.eqv z d) else none
theorem g_cIn {K : PySem.W.Frag} {neg : Bool} : Cmp2 K (rInTD K neg) (cIn neg) := by
  intro pa x y d e z Z H Q zh rx ry hg q
  cases e with
  | list ds =>
    simp only [cIn, itemsOf, Option.bind_some] at hg
    split at hg
    · rename_i hs
      cases hg
      exact ⟨d, ds, rx.dp (SeqAt.canLay_of_shaped hs.1) zh, .inl ⟨ry.dp (SeqAt.canLay_of_shaped hs.2) zh, hs.2⟩, hs.1, q⟩
    · cases hg
  | tuple ds =>
    simp only [cIn, itemsOf, Option.bind_some] at hg
    split at hg
    · rename_i hs
      cases hg
      exact ⟨d, ds, rx.dp (SeqAt.canLay_of_shaped hs.1) zh, .inr ⟨ry.dp (SeqAt.canLay_of_shaped hs.2) zh, hs.2⟩, hs.1, q⟩
    · cases hg
  | _ => cases hg
/-- is None, is True -/
def cIs (neg : Bool) : D → D → Option Bool
  | .bool a, .bool b => some (if neg then !decide (a = b) else decide (a = b))
  | .none, .none => some (!neg)
  | .bool _, .none => some neg
  | .int _, .none => some neg
  | .str _, .none => some neg
  | .list _, .none => some neg
  | .tuple _, .none => some neg
  | _, _ => none
def rIsA (neg : Bool) : R2 := fun x y H Q => (∃ a b, x = .bl a ∧ y = .bl b ∧ Q (.bl (if neg then !decide (a = b) else decide (a = b))) H) ∨ (y = .non ∧ Q (.bl (if neg then !decide (x = .non) else decide (x = .non))) H)
theorem op_isA : OpR X (compareOp .Is) (rIsA false) := op_is_bl.or op_isN
theorem op_isNotA : OpR X (compareOp .IsNot) (rIsA true) := op_isnot_bl.or op_notN
theorem g_cIs {K : PySem.W.Frag} {neg : Bool} : Cmp2 K (rIsA neg) (cIs neg) := by
  intro pa x y d e z Z H Q zh rx ry hg q
  cases e with
  | none =>
    have hy : y = .non := by cases ry.rep (fun _ q => nomatch q); rfl
    subst hy
    refine .inr ⟨rfl, ?_⟩
    cases d with
    | none =>
      cases rx.rep (fun _ q => nomatch q)
      cases hg
      cases neg <;> exact q
    | bool b =>
      cases rx.rep (fun _ q => nomatch q)
      cases hg
      cases neg <;> exact q
    | int b =>
      cases rx.rep (fun _ q => nomatch q)
      cases hg
      cases neg <;> exact q
    | str b =>
      cases rx.rep (fun _ q => nomatch q)
      cases hg
      cases neg <;> exact q
    | list b =>
      obtain ⟨p, vs, rfl, _⟩ := rx.list zh
      cases hg
      cases neg <;> exact q
    | tuple b =>
      cases rx.rep (fun _ q => nomatch q) with
      | tup _ _ =>
        cases hg
        cases neg <;> exact q
    | dict b => cases hg
  | bool b =>
    cases d with
    | bool a =>
      cases rx.rep (fun _ q => nomatch q)
      cases ry.rep (fun _ q => nomatch q)
      cases hg
      exact .inl ⟨a, b, rfl, rfl, q⟩
    | _ => cases hg
  | _ => cases d <;> cases hg

/-! ### subscripts -/
def gIx : D → D → Option D
  | .list ds, .int i => atI ds i
  | .tuple ds, .int i => atI ds i
  | .str z, .int i => if z.length ≤ sizeLine then (atI z.cps.toList i).map fun c => .str ⟨#[c]⟩ else none
  | .dict [(.bool true, .list ds)], .int i => atI ds i
  | _, _ => none
theorem atI_rep {K : PySem.W.Frag} {pa : Addr} {Z : Hp} {vs : List V} {ds : List D} {i : Int} {d : D} (r : RepA K pa Z vs ds) (h : atI ds i = some d) : ∃ v, atI vs i = some v ∧ Rep K pa Z v d := by
  unfold atI at h ⊢
  rw [r.length]
  cases e : ixN ds.length i with
  | none => rw [e] at h; cases h
  | some j =>
    rw [e] at h
    exact r.get h
theorem RepH.scr {K : PySem.W.Frag} {pa : Addr} {Z H : Hp} {x : V} {ds : List D} (z : Same Z H) (r : RepH K pa Z H x (.dict [(.bool true, .list ds)])) : ∃ a vs, x = .ref a ∧ SqL K H a vs ∧ RepA K pa Z vs ds := by
  rcases r with r | ⟨p, vs, es, h1, h2, h3, h4⟩
  · cases r with
    | scr h ra => exact ⟨_, _, rfl, z.seq h, ra⟩
  · cases h2
theorem g_ix {K : PySem.W.Frag} : Op2 K (rIx K) gIx := by
  intro pa x y d e z Z H Q zh rx ry hg q
  cases e with
  | int i =>
    cases ry.rep (fun _ q => nomatch q)
    cases d with
    | list ds =>
      obtain ⟨p, vs, rfl, hp, ra⟩ := rx.list zh
      obtain ⟨v, h1, h2⟩ := atI_rep ra hg
      exact .inl ⟨p, vs, i, v, rfl, rfl, .of hp, h1, q _ _ _ (Grow.refl zh) h2⟩
    | tuple ds =>
      cases rx.rep (fun _ q => nomatch q) with
      | tup h ra =>
        obtain ⟨v, h1, h2⟩ := atI_rep ra hg
        exact .inr (.inl ⟨_, _, i, v, rfl, rfl, sqT_mono zh h.sq, h1, q _ _ _ (Grow.refl zh) h2⟩)
    | str x =>
      cases rx.rep (fun _ q => nomatch q)
      simp only [gIx] at hg
      split at hg
      · rename_i hz
        obtain ⟨c, h1, h2⟩ := Option.map_eq_some_iff.mp hg
        subst h2
        exact .inr (.inr ⟨x, i, c, rfl, rfl, hz, h1, q _ _ _ (Grow.refl zh) (.str _)⟩)
      · cases hg
    | dict kvs =>
      simp only [gIx] at hg
      split at hg
      · rename_i h1 h2
        cases h1
      · rename_i h1 h2
        cases h1
      · rename_i h1 h2
        cases h1
      · rename_i es j h1 h2
        cases h1
        cases h2
        obtain ⟨a, vs, rfl, hp, ra⟩ := RepH.scr zh rx
        obtain ⟨v, h1, h2⟩ := atI_rep ra hg
        exact .inl ⟨a, vs, _, v, rfl, rfl, hp, h1, q _ _ _ (Grow.refl zh) h2⟩
      · cases hg
    | _ => cases hg
  | _ => cases d <;> first | cases hg | simp [gIx] at hg
/-- a[b]: the container is only looked at -/
def eIx (fa : B Src) (fb : B D) : B D := do
  let x ← fa
  let i ← fb
  let d ← rd x
  lift (gIx d i)
variable {a b e : Expr} {es : List Expr} {f fa fb : B D} {sa sb : B Src} {pos : Pos}
theorem fe_ix (ha : FB X a sa) (hb : FE X b fb) (hs : PlainIx b := by exact fun _ _ => rfl) : FE X (.Subscript a b pos) (eIx sa fb) := by
  refine ⟨fun pa B0 W tk => ⟨fun pins s σ H Q I ⟨Z, st, k, w⟩ => (pe_ix ix_seq (ha.pe pa B0 W tk) (hb.pe pa B0 W tk) hs).run pins s σ H Q I ?_⟩⟩
  refine ⟨Z, st, k, (End.bind w).imp fun x s1 Z1 H1 k1 _ w1 v rv => ⟨Z1, s1, k1, (End.bind w1).imp fun i s2 Z2 H2 k2 z2 w2 u ru => ?_⟩⟩
  obtain ⟨d, hd, w3⟩ := End.rd k2 (rv.mono z2.zz) w2
  obtain ⟨z, hz, w4⟩ := End.lift1 w3
  exact g_ix pa v u d i z Z2 H2 Q k2.sub hd (.of ru) hz fun t Z' H' gr rt => w4.grow k2 gr t rt

/-! ### slices -/
def rSlN (K : PySem.W.Frag) : V → Option Int → Option Int → Hp → VK → Prop := fun x lo hi H Q => ∃ a xs, x = .ref a ∧ SqT K H a xs ∧
  (HT.sIx xs.length 0 lo = 0 ∧ HT.sIx xs.length xs.length hi = xs.length → Q (.ref a) H) ∧ (¬ (HT.sIx xs.length 0 lo = 0 ∧ HT.sIx xs.length xs.length hi = xs.length) → rTupN (cutV xs lo hi) H Q)
theorem sl_tupN : SlR X (rSlN X.K) := by
  intro pins s σ H x v vl vu lo hi sl Q I rx hs pl pu h
  obtain ⟨a, xs, rfl, hx, q1, q2⟩ := h
  cases rx
  obtain ⟨its, r, ht, hz⟩ := I.tuple hx
  have hlen : its.toArray.size = xs.length := by rw [List.size_toArray]; exact r.length.symm
  refine ⟨"tuple", _, PyProof.Rows.slot_tuple_getitem.lookup, ht.typeIs, ?_⟩
  by_cases hw : HT.sIx xs.length 0 lo = 0 ∧ HT.sIx xs.length xs.length hi = xs.length
  · exact getItem_tuple_whole ht hs pl pu (by rw [hlen]; exact hw) ⟨.ref a, H, I, rfl, q1 hw⟩
  · refine HT.getItem_tuple_cut ht hs pl pu (by rw [hlen]; exact hw) ?_ (by rw [hlen]; exact hz)
    rw [hlen]
    exact ⟨.ref s.heap.objs.size, _, FL.Inv.newTup (tk := s.toks) I ((r.drop (HT.sIx xs.length 0 lo)).take (HT.sIx xs.length xs.length hi - HT.sIx xs.length 0 lo)) (Nat.le_trans (cutV_length xs lo hi) hz), rfl, q2 hw _ _ (I.hok.fresh (Nat.le_refl _)) rfl⟩
/-- the items of a slice -/
def cut {α : Type} (xs : List α) (lo hi : Option Int) : List α := (xs.drop (HT.sIx xs.length 0 lo)).take (HT.sIx xs.length xs.length hi - HT.sIx xs.length 0 lo)
theorem RepA.cut {K : PySem.W.Frag} {pa : Addr} {Z : Hp} {vs : List V} {ds : List D} (r : RepA K pa Z vs ds) (lo hi : Option Int) : RepA K pa Z (cutV vs lo hi) (FL.cut ds lo hi) := by
  unfold cutV FL.cut
  rw [r.length]
  exact (r.drop _).take _
structure FP (X : Cx) (e : Option Expr) (f : B (Option Int)) : Prop where
  po : ∀ pa B0 W, Takes X W → PO X e (fun σ H Q => ∃ Z s, Ok X.K pa B0 Z H σ s ∧ End X.K X.mg pa B0 W σ Z (f s) fun i _ _ H' => Q i H')
def pNo : B (Option Int) := fun s => .ok Option.none s
def asInt : D → Option Int
  | .int i => some i
  | _ => none
def pSo (f : B D) : B (Option Int) := do
  let d ← f
  let i ← lift (asInt d)
  pure (some i)
theorem fp_none : FP X none pNo := ⟨fun pa B0 W tk => ⟨fun pins s σ H Q I ⟨Z, st, k, w⟩ => po_none.run pins s σ H Q I (End.pure w k)⟩⟩
theorem fp_some (h : FE X e f) : FP X (some e) (pSo f) := by
  refine ⟨fun pa B0 W tk => ⟨fun pins s σ H Q I ⟨Z, st, k, w⟩ => (po_some (h.pe pa B0 W tk)).run pins s σ H Q I ?_⟩⟩
  refine ⟨Z, st, k, (End.bind w).imp fun d s1 Z1 H1 k1 _ w1 v rv => ?_⟩
  obtain ⟨i, hi, w2⟩ := End.lift w1
  cases d with
  | int j =>
    cases hi
    cases rv
    exact ⟨i, rfl, End.pure w2 k1⟩
  | _ => cases hi
def gSl (lo hi : Option Int) : D → Option D
  | .list ds => some (.list (cut ds lo hi))
  | .tuple ds => some (.tuple (cut ds lo hi))
  | .dict [(.bool true, .list ds)] => some (.list (cut ds lo hi))
  | _ => none
def eSl (fa : B Src) (fl fh : B (Option Int)) : B D := do
  let x ← fa
  let lo ← fl
  let hi ← fh
  let d ← rd x
  lift (gSl lo hi d)
theorem fe_slice {lo hi : Option Expr} {fl fh : B (Option Int)} {p2 : Pos} (ha : FB X a sa) (hl : FP X lo fl) (hh : FP X hi fh) : FE X (.Subscript a (.Slice lo hi none p2) pos) (eSl sa fl fh) := by
  refine ⟨fun pa B0 W tk => ⟨fun pins s σ H Q I ⟨Z, st, k, w⟩ => (pe_slice (sl_list.or sl_tupN) (ha.pe pa B0 W tk) (hl.po pa B0 W tk) (hh.po pa B0 W tk)).run pins s σ H Q I ?_⟩⟩
  refine ⟨Z, st, k, (End.bind w).imp fun x s1 Z1 H1 k1 _ w1 v rv => ⟨Z1, s1, k1, (End.bind w1).imp fun i s2 Z2 H2 k2 z2 w2 => ⟨Z2, s2, k2, (End.bind w2).imp fun j s3 Z3 H3 k3 z3 w3 => ?_⟩⟩⟩
  obtain ⟨d, hd, w4⟩ := End.rd k3 (rv.mono (z2.zz.trans z3.zz)) w3
  obtain ⟨z, hz, w5⟩ := End.lift1 w4
  have isL : ∀ p vs ds, v = .ref p → SqL X.K H3 p vs → RepA X.K pa Z3 vs ds → z = .list (cut ds i j) → rSlL X.K v i j H3 Q ∨ rSlN X.K v i j H3 Q := fun p vs ds hv hp ra e => by
    subst hv e
    refine .inl ⟨p, vs, rfl, hp, fun l hl => ?_⟩
    have g := Grow.new1 k3.sub (o := .lst (cutV vs i j)) hl
    exact w5.grow k3 g _ (.lst upd_same ((ra.cut i j).mono g.zz))
  cases d with
  | list ds =>
    obtain ⟨p, vs, hv, hp, ra⟩ := hd.list k3.sub
    cases hz
    exact isL p vs ds hv (.of hp) ra rfl
  | tuple ds =>
    cases hz
    cases hd.rep (fun _ q => nomatch q) with
    | tup h ra =>
      rename_i ta xs
      refine .inr ⟨_, _, rfl, sqT_mono k3.sub h.sq, fun c => ?_, fun c => rTupN_of k3.sub (ra.cut i j) fun v Z' H' g r => w5.grow k3 g v r⟩
      have e1 : cut ds i j = ds := by
        unfold cut
        rw [← ra.length]
        rw [c.1, c.2, List.drop_zero, Nat.sub_zero, ra.length, List.take_length]
      rw [e1] at w5
      exact End.pure w5 k3 _ (.tup h ra)
  | dict kvs =>
    simp only [gSl] at hz
    split at hz
    · rename_i h1; cases h1
    · rename_i h1; cases h1
    · rename_i ds h1
      cases h1
      cases hz
      obtain ⟨p, vs, hv, hp, ra⟩ := RepH.scr k3.sub hd
      exact isL p vs ds hv hp ra rfl
    · cases hz
  | _ => cases hz

/-! ### built-in calls -/
inductive RepHA (K : PySem.W.Frag) (pa : Addr) (Z H : Hp) : List V → List D → Prop
  | nil : RepHA K pa Z H [] []
  | cons {v : V} {vs : List V} {d : D} {ds : List D} : RepH K pa Z H v d → RepHA K pa Z H vs ds → RepHA K pa Z H (v :: vs) (d :: ds)
inductive RepSA (K : PySem.W.Frag) (pa : Addr) (Z : Hp) (σ : VSt) : List V → List Src → Prop
  | nil : RepSA K pa Z σ [] []
  | cons {v : V} {vs : List V} {d : Src} {ds : List Src} : RepS K pa Z σ v d → RepSA K pa Z σ vs ds → RepSA K pa Z σ (v :: vs) (d :: ds)
theorem RepSA.mono {K : PySem.W.Frag} {pa : Addr} {Z Z' : Hp} {σ : VSt} (z : Same Z Z') : ∀ {vs : List V} {ss : List Src}, RepSA K pa Z σ vs ss → RepSA K pa Z' σ vs ss
  | _, _, .nil => .nil
  | _, _, .cons h t => .cons (h.mono z) (RepSA.mono z t)
def rdA : List Src → B (List D)
  | [] => fun s => .ok [] s
  | x :: xs => do
    let d ← rd x
    let ds ← rdA xs
    pure (d :: ds)
theorem End.rdA {K : PySem.W.Frag} {mg : Str → Option Value} {pa : Addr} {B0 : Hp} {W : WX} {σ : VSt} {Z H : Hp} {s : S} {α : Type} (ok : Ok K pa B0 Z H σ s) : ∀ {srcs : List Src} {vs : List V} {k : List D → S → R S α} {P : α → S → Hp → Hp → Prop}, RepSA K pa Z σ vs srcs → End K mg pa B0 W σ Z ((FL.rdA srcs s).bind k) P →
    ∃ ds, RepHA K pa Z H vs ds ∧ End K mg pa B0 W σ Z (k ds s) P
  | [], _, k, P, .nil, h => ⟨[], .nil, h⟩
  | x :: xs, _, k, P, .cons r t, h => by
    have h' : End K mg pa B0 W σ Z ((FL.rd x s).bind fun d s1 => ((FL.rdA xs s1).bind fun ds s2 => k (d :: ds) s2)) P := by
      have e : (FL.rdA (x :: xs) s).bind k = (FL.rd x s).bind fun d s1 => ((FL.rdA xs s1).bind fun ds s2 => k (d :: ds) s2) := by
        show R.bind (R.bind (FL.rd x s) fun d s1 => R.bind (FL.rdA xs s1) fun ds s2 => R.ok (d :: ds) s2) k = _
        cases FL.rd x s with
        | ok d s1 =>
          show R.bind (R.bind (FL.rdA xs s1) _) k = R.bind (FL.rdA xs s1) _
          cases FL.rdA xs s1 <;> rfl
        | ex _ _ => rfl
        | bad => rfl
      rw [e] at h
      exact h
    obtain ⟨d, hd, w⟩ := End.rd ok r h'
    obtain ⟨ds, hds, w2⟩ := End.rdA (srcs := xs) ok t w
    exact ⟨d :: ds, .cons hd hds, w2⟩
structure FAS (X : Cx) (es : List Expr) (f : B (List Src)) : Prop where
  pa : ∀ pa B0 W, Takes X W → PA X es (fun σ H Q => ∃ Z s, Ok X.K pa B0 Z H σ s ∧ End X.K X.mg pa B0 W σ Z (f s) fun ss _ Z' H' => ∀ vs, RepSA X.K pa Z' σ vs ss → Q vs H')
def sNil : B (List Src) := fun s => .ok [] s
def sCons (f : B Src) (r : B (List Src)) : B (List Src) := do
  let x ← f
  let xs ← r
  pure (x :: xs)
variable {sr : B (List Src)}
theorem fas_nil : FAS X [] sNil := ⟨fun pa B0 W tk => ⟨fun pos pins s σ H Q I ⟨Z, st, k, w⟩ => pa_nil.run pos pins s σ H Q I (End.pure w k [] .nil)⟩⟩
theorem fas_cons (ha : FB X e sa) (hr : FAS X es sr) (hs : starEach (e :: es) X.env = (false, eval e X.env) :: starEach es X.env := by rfl) : FAS X (e :: es) (sCons sa sr) := by
  refine ⟨fun pa B0 W tk => ⟨fun pos pins s σ H Q I ⟨Z, st, k, w⟩ => (pa_cons (ha.pe pa B0 W tk) (hr.pa pa B0 W tk) hs).run pos pins s σ H Q I ?_⟩⟩
  refine ⟨Z, st, k, (End.bind w).imp fun d s1 Z1 H1 k1 _ w1 v rv => ⟨Z1, s1, k1, (End.bind w1).imp fun ds s2 Z2 H2 k2 z2 w2 vs rvs => End.pure w2 k2 _ (.cons (rv.mono z2.zz) rvs)⟩⟩
abbrev RC := List V → Hp → VK → Prop
def CallG (K : PySem.W.Frag) (r : RC) (g : List D → Option D) : Prop :=
  ∀ (pa : Addr) (xs : List V) (ds : List D) (z : D) (Z H : Hp) (Q : VK), Same Z H → RepHA K pa Z H xs ds → g ds = some z → (∀ v Z' H', Grow Z H Z' H' → Rep K pa Z' v z → Q v H') → r xs H Q
/-- a call that makes a new list -/
def CallL (K : PySem.W.Frag) (r : RC) (g : List D → Option (List D)) : Prop :=
  ∀ (pa : Addr) (xs : List V) (ds : List D) (zs : List D) (Z H : Hp) (Q : VK), Same Z H → RepHA K pa Z H xs ds → g ds = some zs →
    (∀ p vs Z' H', Grow Z H Z' H' → H p = none → H' p = some (.lst vs) → Z' p = none → RepA K pa Z' vs zs → Q (.ref p) H') → r xs H Q
def eCall1 (g : List D → Option D) (f : B (List Src)) : B D := do
  let xs ← f
  let ds ← rdA xs
  lift (g ds)
def eCallL (g : List D → Option (List D)) (f : B (List Src)) : B (List D) := do
  let xs ← f
  let ds ← rdA xs
  lift (g ds)
theorem fe_of_call {r : RC} {g : List D → Option D} {ex : Expr} (hg : CallG X.K r g) (h : ∀ t, PA X es t → PE X ex (tCB r t)) (ha : FAS X es sr) : FE X ex (eCall1 g sr) := by
  refine ⟨fun pa B0 W tk => ⟨fun pins s σ H Q I ⟨Z, st, k, w⟩ => (h _ (ha.pa pa B0 W tk)).run pins s σ H Q I ?_⟩⟩
  refine ⟨Z, st, k, (End.bind w).imp fun x s1 Z1 H1 k1 _ w1 vs rvs => ?_⟩
  obtain ⟨ds, hds, w2⟩ := End.rdA k1 rvs w1
  obtain ⟨z, hz, w3⟩ := End.lift1 w2
  exact hg pa vs ds z Z1 H1 Q k1.sub hds hz fun t Z' H' gr rt => w3.grow k1 gr t rt
theorem fo_of_call {r : RC} {g : List D → Option (List D)} {ex : Expr} (hg : CallL X.K r g) (h : ∀ t, PA X es t → PE X ex (tCB r t)) (ha : FAS X es sr) : FO X ex (eCallL g sr) := by
  refine ⟨fun pa B0 W tk => ⟨fun pins s σ H Q I ⟨Z, st, k, w⟩ => (h _ (ha.pa pa B0 W tk)).run pins s σ H Q I ?_⟩⟩
  refine ⟨Z, st, k, (End.bind w).imp fun x s1 Z1 H1 k1 _ w1 vs rvs => ?_⟩
  obtain ⟨ds, hds, w2⟩ := End.rdA k1 rvs w1
  obtain ⟨zs, hz, w3⟩ := End.lift1 w2
  refine hg pa vs ds zs Z1 H1 Q k1.sub hds hz fun p ws Z' H' gr hp hp' hz' ra => ?_
  have f1 := k1.fresh hp
  exact w3 H' Z' (k1.grow gr) (k1.ext gr) p ws hp' ⟨hz', f1.b, f1.own⟩ ra
theorem fe_callB {id : String} {x : Str} {p : Pos} {r : RC} {g : List D → Option D} (hc : CallR X (.builtin id) r) (hg : CallG X.K r g) (gl : Gl X x) (hm : X.mg x = none) (hv : bootBuiltins x = some (.builtin id)) (ha : FAS X (e :: es) sr) (hn : x ≠ "__name__" := by decide) (hdb : (x == ("__debug__" : Str)) = false := by decide)
    (he : starEach (e :: es) X.env = (false, eval e X.env) :: starEach es X.env := by rfl) (hpl : (backTo pos (starEach es X.env)).any (·.1) = false := by rfl) : FE X (.Call (.Name x p) (e :: es) [] pos) (eCall1 g sr) :=
  fe_of_call hg (fun t ht => pe_callB hc gl hm hv ht hn hdb he hpl) ha
theorem fo_callB {id : String} {x : Str} {p : Pos} {r : RC} {g : List D → Option (List D)} (hc : CallR X (.builtin id) r) (hg : CallL X.K r g) (gl : Gl X x) (hm : X.mg x = none) (hv : bootBuiltins x = some (.builtin id)) (ha : FAS X (e :: es) sr) (hn : x ≠ "__name__" := by decide) (hdb : (x == ("__debug__" : Str)) = false := by decide)
    (he : starEach (e :: es) X.env = (false, eval e X.env) :: starEach es X.env := by rfl) (hpl : (backTo pos (starEach es X.env)).any (·.1) = false := by rfl) : FO X (.Call (.Name x p) (e :: es) [] pos) (eCallL g sr) :=
  fo_of_call hg (fun t ht => pe_callB hc gl hm hv ht hn hdb he hpl) ha
theorem fe_callTy {T : String} {x : Str} {p : Pos} {r : RC} {g : List D → Option D} (hc : CallR X (.type T) r) (hg : CallG X.K r g) (gl : Gl X x) (hm : X.mg x = none) (hv : bootBuiltins x = some (.type T)) (ha : FAS X (e :: es) sr) (hn : x ≠ "__name__" := by decide) (hdb : (x == ("__debug__" : Str)) = false := by decide)
    (he : starEach (e :: es) X.env = (false, eval e X.env) :: starEach es X.env := by rfl) (hpl : (backTo pos (starEach es X.env)).any (·.1) = false := by rfl) : FE X (.Call (.Name x p) (e :: es) [] pos) (eCall1 g sr) :=
  fe_of_call hg (fun t ht => pe_callTy hc gl hm hv ht hn hdb he hpl) ha
theorem fo_callTy {T : String} {x : Str} {p : Pos} {r : RC} {g : List D → Option (List D)} (hc : CallR X (.type T) r) (hg : CallL X.K r g) (gl : Gl X x) (hm : X.mg x = none) (hv : bootBuiltins x = some (.type T)) (ha : FAS X (e :: es) sr) (hn : x ≠ "__name__" := by decide) (hdb : (x == ("__debug__" : Str)) = false := by decide)
    (he : starEach (e :: es) X.env = (false, eval e X.env) :: starEach es X.env := by rfl) (hpl : (backTo pos (starEach es X.env)).any (·.1) = false := by rfl) : FO X (.Call (.Name x p) (e :: es) [] pos) (eCallL g sr) :=
  fo_of_call hg (fun t ht => pe_callTy hc gl hm hv ht hn hdb he hpl) ha
end
end FL
set_option maxHeartbeats 1000000
/-! FL4: statements, targets, loops. -/
namespace FL
open PySem PySem.Spec PyProof.Rows L2

/-- the context of a def's body (or of a block in it) -/
structure XG (X : Cx) (k : Nat) : Prop where
  calm : X.calm = true
  po : PassesOwn (model X.prog X.w) X.A X.env X.xe
  nd : X.N.Nodup
  rm : Rm k X.A

section
variable {K : PySem.W.Frag} {mg : Str → Option Value} {pa : Addr} {B0 : Hp} {W : WX} {Z Z' : Hp}
theorem EndS.mono {r : R S Fl} {En En' : Ends} (x : ZExt B0 Z Z') (h : EndS K mg pa B0 W Z r En) (h1 : ∀ σ H, En.nx σ H → En'.nx σ H) (h2 : ∀ σ H, En.bk σ H → En'.bk σ H) (h3 : ∀ σ H, En.ct σ H → En'.ct σ H) (h4 : ∀ v H, En.rt v H → En'.rt v H) :
    EndS K mg pa B0 W Z' r En' := by
  cases r with
  | ok fl s =>
    cases fl with
    | nx => exact fun σ H' Z'' k z => h1 _ _ (h σ H' Z'' k (x.trans z))
    | bk => exact fun σ H' Z'' k z => h2 _ _ (h σ H' Z'' k (x.trans z))
    | ct => exact fun σ H' Z'' k z => h3 _ _ (h σ H' Z'' k (x.trans z))
    | rt d => exact fun v σ H' Z'' k z r => h4 _ _ (h v σ H' Z'' k (x.trans z) r)
  | ex e s => exact fun c d σ H' Z'' k z => h c d σ H' Z'' k (x.trans z)
  | bad => exact h
/-- an expression, then the rest of a statement -/
theorem EndS.ofE {α : Type} {r : R S α} {k : α → S → R S Fl} {σ : VSt} {En : Ends} (h : EndS K mg pa B0 W Z (r.bind k) En) : End K mg pa B0 W σ Z r fun a s1 Z1 _ => EndS K mg pa B0 W Z1 (k a s1) En := by
  cases r with
  | ok a s => exact fun H' Z' ok z => EndS.mono z h (fun _ _ q => q) (fun _ _ q => q) (fun _ _ q => q) fun _ _ q => q
  | ex e s => exact fun c d H' Z' ok z => h c d σ H' Z' ok z
  | bad => exact h
theorem EndS.nx {s : S} {En : Ends} (h : EndS K mg pa B0 W Z (.ok .nx s) En) {H : Hp} {σ : VSt} (k : Ok K pa B0 Z H σ s) : En.nx σ H := h σ H Z k (ZExt.refl B0 Z)
theorem EndS.rt {s : S} {d : D} {En : Ends} (h : EndS K mg pa B0 W Z (.ok (.rt d) s) En) {H : Hp} {σ : VSt} {v : V} (k : Ok K pa B0 Z H σ s) (r : Rep K pa Z v d) : En.rt v H := h v σ H Z k (ZExt.refl B0 Z) r
end

/-! ### blocks -/
def sSeq (g h : B Fl) : B Fl := fun s => (g s).bind fun fl s1 => match fl with
  | .nx => h s1
  | fl => .ok fl s1
def sNx : B Fl := fun s => .ok .nx s
def sBk : B Fl := fun s => .ok .bk s
def sCt : B Fl := fun s => .ok .ct s
def sRet (f : B D) : B Fl := fun s => (f s).bind fun d s1 => .ok (.rt d) s1
def sRetN : B Fl := fun s => .ok (.rt .none) s
def sDrop (f : B D) : B Fl := fun s => (f s).bind fun _ s1 => .ok .nx s1
def sIf (t : B Bool) (g h : B Fl) : B Fl := fun s => (t s).bind fun b s1 => if b then g s1 else h s1
def sNever : B Fl := fun _ => .bad
section
variable {X : Cx} {st : Stmt} {rest : List Stmt} {g h : B Fl} {e : Expr} {f : B D} {t : B Bool} {pos : Pos} {k : Nat}
theorem seq_aux {K : PySem.W.Frag} {mg : Str → Option Value} {pa : Addr} {B0 : Hp} {W : WX} {Z : Hp} {s : S} {En : Ends} (w : EndS K mg pa B0 W Z (sSeq g h s) En) :
    EndS K mg pa B0 W Z (g s) { En with nx := tS K mg pa B0 W h En } := by
  unfold sSeq at w
  cases e : g s with
  | ok fl s1 =>
    rw [e] at w
    cases fl with
    | nx => exact fun σ H' Z' k z => ⟨Z', s1, k, EndS.mono z w (fun _ _ q => q) (fun _ _ q => q) (fun _ _ q => q) fun _ _ q => q⟩
    | bk => exact w
    | ct => exact w
    | rt d => exact w
  | ex x s1 => rw [e] at w; exact w
  | bad => rw [e] at w; exact w
theorem fss_nil : FSs X [] sNx := ⟨fun pa B0 W tk => ⟨fun pins s σ H En I ⟨Z, st, k, w⟩ => pss_nil.run pins s σ H En I (EndS.nx w k)⟩⟩
theorem fss_cons (h1 : FS X st g) (h2 : FSs X rest h) : FSs X (st :: rest) (sSeq g h) :=
  ⟨fun pa B0 W tk => ⟨fun pins s σ H En I ⟨Z, st, k, w⟩ => (pss_cons (h1.ps pa B0 W tk) (h2.ps pa B0 W tk)).run pins s σ H En I ⟨Z, st, k, seq_aux w⟩⟩⟩
theorem fss_one (h1 : FS X st g) : FSs X [st] g := ⟨fun pa B0 W tk => pss_one (h1.ps pa B0 W tk)⟩
theorem fs_pass : FS X (.Pass pos) sNx := ⟨fun pa B0 W tk => ⟨fun pins s σ H En I ⟨Z, st, k, w⟩ => ps_pass.run pins s σ H En I (EndS.nx w k)⟩⟩
theorem fs_break : FS X (.Break pos) sBk := ⟨fun pa B0 W tk => ⟨fun pins s σ H En I ⟨Z, st, k, w⟩ => ps_break.run pins s σ H En I (w σ H Z k (ZExt.refl B0 Z))⟩⟩
theorem fs_continue : FS X (.Continue pos) sCt := ⟨fun pa B0 W tk => ⟨fun pins s σ H En I ⟨Z, st, k, w⟩ => ps_continue.run pins s σ H En I (w σ H Z k (ZExt.refl B0 Z))⟩⟩
theorem fs_never : FS X st sNever := ⟨fun pa B0 W tk => ⟨fun pins s σ H En I ⟨Z, st, k, w⟩ => False.elim w⟩⟩
theorem fs_ret (he : FE X e f) : FS X (.Return (some e) pos) (sRet f) :=
  ⟨fun pa B0 W tk => ⟨fun pins s σ H En I ⟨Z, st, k, w⟩ => (ps_ret (he.pe pa B0 W tk)).run pins s σ H En I ⟨Z, st, k, (EndS.ofE w).imp fun d s1 Z1 H1 k1 _ w1 v rv => w1.rt k1 rv⟩⟩⟩
theorem fs_retN : FS X (.Return none pos) sRetN := ⟨fun pa B0 W tk => ⟨fun pins s σ H En I ⟨Z, st, k, w⟩ => ps_retN.run pins s σ H En I (EndS.rt w k .non)⟩⟩
theorem fs_expr (he : FE X e f) (hs : swapsWith e none pos.line X.env = pure false := by rfl) : FS X (.Expr e pos) (sDrop f) :=
  ⟨fun pa B0 W tk => ⟨fun pins s σ H En I ⟨Z, st, k, w⟩ => (ps_expr (he.pe pa B0 W tk) hs).run pins s σ H En I ⟨Z, st, k, (EndS.ofE w).imp fun d s1 Z1 H1 k1 _ w1 v rv => w1.nx k1⟩⟩⟩
theorem fs_if {c : Expr} {a b : List Stmt} (hc : FT X c t) (ha : FSs X a g) (hb : FSs X b h) : FS X (.If c a b pos) (sIf t g h) := by
  refine ⟨fun pa B0 W tk => ⟨fun pins s σ H En I ⟨Z, st, k, w⟩ => (ps_if (hc.pt pa B0 W tk) (ha.ps pa B0 W tk) (hb.ps pa B0 W tk)).run pins s σ H En I ?_⟩⟩
  refine ⟨Z, st, k, (EndS.ofE w).imp fun b s1 Z1 H1 k1 _ w1 => ?_⟩
  cases b with
  | true => exact iteT ⟨Z1, s1, k1, w1⟩
  | false => exact iteF ⟨Z1, s1, k1, w1⟩
end

/-! ### targets -/
/-- a value, or a tuple that lives for the turn alone -/
def RepT (K : PySem.W.Frag) (pa : Addr) (Z H : Hp) (v : V) (d : D) : Prop := Rep K pa Z v d ∨ ∃ a xs ds, v = .ref a ∧ d = .tuple ds ∧ SqT K H a xs ∧ RepA K pa Z xs ds
abbrev Asg := D → B Unit
/-- what a target at these slots does -/
def tG (K : PySem.W.Frag) (pa : Addr) (B0 : Hp) (ix : List Nat) (tr : Bool) (asg : Asg) : TG := fun v σ H Q => ∃ Z s d, Ok K pa B0 Z H σ s ∧ (if tr = true then RepT K pa Z H v d else Rep K pa Z v d) ∧ match asg d s with
  | .ok _ s' => ∀ σ' H' Z', Ok K pa B0 Z' H' σ' s' → ZExt B0 Z Z' → σ'.length = σ.length → (∀ j, j ∉ ix → σ'[j]? = σ[j]?) → Q σ' H'
  | _ => False
def tGs (K : PySem.W.Frag) (pa : Addr) (B0 : Hp) (ix : List Nat) (asg : List D → B Unit) : TGs := fun vs σ H Q => ∃ Z s ds, Ok K pa B0 Z H σ s ∧ RepA K pa Z vs ds ∧ match asg ds s with
  | .ok _ s' => ∀ σ' H' Z', Ok K pa B0 Z' H' σ' s' → ZExt B0 Z Z' → σ'.length = σ.length → (∀ j, j ∉ ix → σ'[j]? = σ[j]?) → Q σ' H'
  | _ => False
structure FG (X : Cx) (tg : Expr) (tr : Bool) (ix : List Nat) (asg : Asg) : Prop where
  pg : ∀ pa B0, PG X tg (tG X.K pa B0 ix tr asg)
structure FGs (X : Cx) (tgs : List Expr) (ix : List Nat) (asg : List D → B Unit) : Prop where
  pg : ∀ pa B0, PGs X tgs (tGs X.K pa B0 ix asg)
def aN (i : Nat) : Asg := fun d s => .ok () { s with env := s.env.set i (.v d) }
def aNil : List D → B Unit := fun ds s => match ds with
  | [] => .ok () s
  | _ => .bad
def aCons (a : Asg) (r : List D → B Unit) : List D → B Unit := fun ds s => match ds with
  | d :: ds => (a d s).bind fun _ s1 => r ds s1
  | [] => .bad
def aTup (r : List D → B Unit) : Asg := fun d => match d with
  | .tuple ds => r ds
  | _ => fun _ => .bad
section
variable {X : Cx} {tg : Expr} {tgs : List Expr} {ix jx : List Nat} {asg : Asg} {as : List D → B Unit} {pos : Pos}
theorem fg_name (i : Nat) {x : Str} (hN : X.N.Nodup) (hi : X.N[i]? = some x := by rfl) (hx : Loc X.env.scope x := by first | exact Or.inl rfl | exact Or.inr rfl) (hf : X.fn x = true ∨ X.env.scope.names.lookup x = some .local := by first | exact .inl rfl | exact .inr rfl | assumption) : FG X (.Name x pos) false [i] (aN i) := by
  refine ⟨fun pa B0 => ⟨fun pins s σ H v u Q I rv ⟨Z, st, d, k, r, w⟩ => (pg_name hN hi hx hf).run pins s σ H v u Q I rv ?_⟩⟩
  have r : Rep X.K pa Z v d := r
  refine w _ H Z (k.setV i r) (ZExt.refl B0 Z) (by simp) fun j hj => ?_
  rw [List.getElem?_set_ne]
  intro e
  exact hj (by simp [e])
theorem fgs_nil : FGs X [] [] aNil := by
  refine ⟨fun pa B0 => ⟨fun pins s σ H vs us Q I rv ⟨Z, st, ds, k, r, w⟩ => pgs_nil.run pins s σ H vs us Q I rv ?_⟩⟩
  cases r with
  | nil => exact ⟨rfl, w σ H Z k (ZExt.refl B0 Z) rfl fun _ _ => rfl⟩
  | cons _ _ => exact False.elim w
theorem fgs_cons (h1 : FG X tg false ix asg) (h2 : FGs X tgs jx as) (hs : (assignEach (tg :: tgs) X.env).map (·.2) = assign tg X.env :: (assignEach tgs X.env).map (·.2) := by rfl) : FGs X (tg :: tgs) (ix ++ jx) (aCons asg as) := by
  refine ⟨fun pa B0 => ⟨fun pins s σ H vs us Q I rv ⟨Z, st, ds, k, r, w⟩ => (pgs_cons (h1.pg pa B0) (h2.pg pa B0) hs).run pins s σ H vs us Q I rv ?_⟩⟩
  cases r with
  | nil => exact False.elim w
  | @cons v vs d ds r1 r2 =>
    refine ⟨v, vs, rfl, Z, st, d, k, r1, ?_⟩
    have w : match (asg d st).bind fun _ s1 => as ds s1 with
      | .ok _ s' => ∀ σ' H' Z', Ok X.K pa B0 Z' H' σ' s' → ZExt B0 Z Z' → σ'.length = σ.length → (∀ j, j ∉ ix ++ jx → σ'[j]? = σ[j]?) → Q σ' H'
      | _ => False := w
    cases e : asg d st with
    | ok a s1 =>
      rw [e] at w
      intro σ1 H1 Z1 k1 z1 l1 n1
      refine ⟨Z1, s1, ds, k1, r2.mono z1.zz, ?_⟩
      have w : match as ds s1 with
        | .ok _ s' => ∀ σ' H' Z', Ok X.K pa B0 Z' H' σ' s' → ZExt B0 Z Z' → σ'.length = σ.length → (∀ j, j ∉ ix ++ jx → σ'[j]? = σ[j]?) → Q σ' H'
        | _ => False := w
      cases e2 : as ds s1 with
      | ok a2 s2 =>
        rw [e2] at w
        exact fun σ2 H2 Z2 k2 z2 l2 n2 => w σ2 H2 Z2 k2 (z1.trans z2) (l2.trans l1) fun j hj => (n2 j fun q => hj (List.mem_append_right _ q)).trans (n1 j fun q => hj (List.mem_append_left _ q))
      | ex _ _ => rw [e2] at w; exact w
      | bad => rw [e2] at w; exact w
    | ex _ _ => rw [e] at w; exact False.elim w
    | bad => rw [e] at w; exact False.elim w
theorem fg_tup {es : List Expr} {n kk : Nat} {tr : Bool} (hc : X.calm = true) (h : FGs X es ix as) (hn : (assignEach es X.env).length = n := by rfl) (hst : (assignEach es X.env).findIdx? (·.1) = none := by rfl) (hk : ∀ ds s a s', as ds s = .ok a s' → ds.length = n) : FG X (.Tuple es kk pos) tr ix (aTup as) := by
  refine ⟨fun pa B0 => ⟨fun pins s σ H v u Q I rv ⟨Z, st, d, k, r, w⟩ => (pg_tup (n := n) hc (h.pg pa B0) hn hst).run pins s σ H v u Q I rv ?_⟩⟩
  have r' : RepT X.K pa Z H v d := by
    cases tr with
    | true => exact r
    | false => exact .inl r
  have go : ∀ a xs ds, v = .ref a → d = .tuple ds → SqT X.K H a xs → RepA X.K pa Z xs ds → gTup X.K n (tGs X.K pa B0 ix as) v σ H Q := fun a xs ds hv hd hq ra => by
    subst hv hd
    have w : match as ds st with
      | .ok _ s' => ∀ σ' H' Z', Ok X.K pa B0 Z' H' σ' s' → ZExt B0 Z Z' → σ'.length = σ.length → (∀ j, j ∉ ix → σ'[j]? = σ[j]?) → Q σ' H'
      | _ => False := w
    refine ⟨a, xs, rfl, hq, ?_, Z, st, ds, k, ra, w⟩
    rw [ra.length]
    cases e : as ds st with
    | ok a s' => exact hk ds st a s' e
    | ex _ _ => rw [e] at w; exact False.elim w
    | bad => rw [e] at w; exact False.elim w
  rcases r' with r | ⟨a, xs, ds, h1, h2, h3, h4⟩
  · cases r with
    | tup hq ra => exact go _ _ _ rfl rfl (sqT_mono k.sub hq.sq) ra
    | _ => exact False.elim w
  · exact go a xs ds h1 h2 h3 h4
end
theorem aNil_len {ds : List D} {s s' : S} {a : Unit} (h : aNil ds s = .ok a s') : ds.length = 0 := by
  cases ds with
  | nil => rfl
  | cons _ _ => cases h
theorem aCons_len {x : Asg} {r : List D → B Unit} {n : Nat} (hr : ∀ ds s a s', r ds s = .ok a s' → ds.length = n) : ∀ (ds : List D) (s : S) (a : Unit) (s' : S), aCons x r ds s = .ok a s' → ds.length = n + 1 := by
  intro ds s a s' h
  cases ds with
  | nil => cases h
  | cons d ds =>
    have h : (x d s).bind (fun _ s1 => r ds s1) = .ok a s' := h
    cases e : x d s with
    | ok b s1 =>
      rw [e] at h
      rw [List.length_cons, hr ds s1 a s' h]
    | ex _ _ => rw [e] at h; cases h
    | bad => rw [e] at h; cases h

/-! ### assignments -/
def sSet (i : Nat) (f : B D) : B Fl := fun s => (f s).bind fun d s1 => .ok .nx { s1 with env := s1.env.set i (.v d) }
def sSetO (i : Nat) (f : B (List D)) : B Fl := fun s => (f s).bind fun ds s1 => .ok .nx { s1 with env := s1.env.set i (.l ds) }
def sAsg (f : B D) (a : Asg) : B Fl := fun s => (f s).bind fun d s1 => match a d s1 with
  | .ok _ s2 => .ok .nx s2
  | _ => .bad
section
variable {X : Cx} {e tg : Expr} {f : B D} {fl : B (List D)} {pos pos' : Pos} {ix : List Nat} {asg : Asg}
theorem fs_set (i : Nat) {x : Str} (hN : X.N.Nodup) (he : FE X e f) (hi : X.N[i]? = some x := by rfl) (hx : Loc X.env.scope x := by first | exact Or.inl rfl | exact Or.inr rfl) (hs : swapsWith e (some (.Name x pos')) pos.line X.env = pure false := by rfl) (hf : X.fn x = true ∨ X.env.scope.names.lookup x = some .local := by first | exact .inl rfl | exact .inr rfl | assumption) :
    FS X (.Assign [.Name x pos'] e pos) (sSet i f) :=
  ⟨fun pa B0 W tk => ⟨fun pins s σ H En I ⟨Z, st, k, w⟩ => (ps_set hN hi hx (he.pe pa B0 W tk) hs hf).run pins s σ H En I ⟨Z, st, k, (EndS.ofE w).imp fun d s1 Z1 H1 k1 _ w1 v rv => w1.nx (k1.setV i rv)⟩⟩⟩
theorem fs_setO (i : Nat) {x : Str} (hN : X.N.Nodup) (he : FO X e fl) (hi : X.N[i]? = some x := by rfl) (hx : Loc X.env.scope x := by first | exact Or.inl rfl | exact Or.inr rfl) (hs : swapsWith e (some (.Name x pos')) pos.line X.env = pure false := by rfl) (hf : X.fn x = true ∨ X.env.scope.names.lookup x = some .local := by first | exact .inl rfl | exact .inr rfl | assumption) :
    FS X (.Assign [.Name x pos'] e pos) (sSetO i fl) :=
  ⟨fun pa B0 W tk => ⟨fun pins s σ H En I ⟨Z, st, k, w⟩ => (ps_set hN hi hx (he.pe pa B0 W tk) hs hf).run pins s σ H En I ⟨Z, st, k, (EndS.ofE w).imp fun d s1 Z1 H1 k1 _ w1 p vs hp fr ra => w1.nx (k1.setO i hp fr ra)⟩⟩⟩
theorem fs_asg (he : FE X e f) (hg : FG X tg false ix asg) (hs : swapsWithSole [tg] e pos.line X.env = pure false := by rfl) (hw : swappedStores [tg] e X.env = pure none := by rfl) (h1 : (assignEach [tg] X.env).map (·.2) = [assign tg X.env] := by rfl) : FS X (.Assign [tg] e pos) (sAsg f asg) := by
  refine ⟨fun pa B0 W tk => ⟨fun pins s σ H En I ⟨Z, st, k, w⟩ => (ps_asg (he.pe pa B0 W tk) (hg.pg pa B0) hs hw h1).run pins s σ H En I ?_⟩⟩
  refine ⟨Z, st, k, (EndS.ofE w).imp fun d s1 Z1 H1 k1 _ w1 v rv => ⟨Z1, s1, d, k1, rv, ?_⟩⟩
  cases e : asg d s1 with
  | ok a s2 =>
    rw [e] at w1
    exact fun σ' H' Z' k' z' _ _ => w1 σ' H' Z' k' z'
  | ex e' s2 => rw [e] at w1; exact w1
  | bad => rw [e] at w1; exact w1
end
end FL
set_option maxHeartbeats 1000000
/-! FL5: loops and comprehensions. -/
namespace FL
open PySem PySem.Spec PyProof.Rows L2

/-! ### what is walked -/
structure WalkD (K : PySem.W.Frag) (pa : Addr) (Z0 : Hp) (J : It) (ds : List D) (tr : Bool) : Prop where
  go : ∀ (i : Nat) (Z H : Hp), i < ds.length → Same Z0 Z → Same Z H → J.go i H
  yld : ∀ (i : Nat) (d : D) (Z H : Hp) (x : V) (H' : Hp), ds[i]? = some d → Same Z0 Z → Same Z H → J.yld i H x H' → ∃ Z', Grow Z H Z' H' ∧ (if tr = true then RepT K pa Z' H' x d else Rep K pa Z' x d)
  stop : ∀ (i : Nat) (Z H : Hp), ds.length ≤ i → Same Z0 Z → Same Z H → J.stop i H
theorem WalkD.mono {K : PySem.W.Frag} {pa : Addr} {Z0 Z1 : Hp} {J : It} {ds : List D} {tr : Bool} (w : WalkD K pa Z0 J ds tr) (z : Same Z0 Z1) : WalkD K pa Z1 J ds tr :=
  ⟨fun i Z H h a b => w.go i Z H h (z.trans a) b, fun i d Z H x H' h a b => w.yld i d Z H x H' h (z.trans a) b, fun i Z H h a b => w.stop i Z H h (z.trans a) b⟩
def tI (K : PySem.W.Frag) (mg : Str → Option Value) (pa : Addr) (B0 : Hp) (W : WX) (tr : Bool) (f : B (List D)) : TI := fun σ H R => ∃ Z s, Ok K pa B0 Z H σ s ∧ End K mg pa B0 W σ Z (f s) fun ds _ Z' H' => ∀ J, WalkD K pa Z' J ds tr → R J H'
structure FI (X : Cx) (tg e : Expr) (tr : Bool) (f : B (List D)) : Prop where
  pi : ∀ pa B0 W, Takes X W → PI X tg e (tI X.K X.mg pa B0 W tr f)
section
variable {K : PySem.W.Frag} {pa : Addr} {Z0 : Hp}
theorem walk_list {a : Addr} {vs : List V} {ds : List D} (h : SqL K Z0 a vs) (hu : ∀ Z H ys, Same Z0 Z → Same Z H → SqL K H a ys → ys = vs) (r : RepA K pa Z0 vs ds) : WalkD K pa Z0 (Itl K a) ds false where
  go := fun i Z H hi a b => by
    rw [← r.length] at hi
    exact ⟨vs, vs[i], (a.trans b).seq h, List.getElem?_eq_getElem hi⟩
  yld := fun i d Z H x H' hd a b y => by
    obtain ⟨e, y⟩ := y
    subst e
    obtain ⟨v, h1, h2⟩ := r.get hd
    have e2 := y vs ((a.trans b).seq h)
    rw [h1] at e2
    cases e2
    exact ⟨Z, Grow.refl b, h2.mono a⟩
  stop := fun i Z H hi a b => ⟨vs, (a.trans b).seq h, by rw [r.length]; exact hi⟩
theorem walk_tup {a : Addr} {vs : List V} {ds : List D} (h : SqT K Z0 a vs) (r : RepA K pa Z0 vs ds) : WalkD K pa Z0 (Itt K a) ds false where
  go := fun i Z H hi a b => by
    rw [← r.length] at hi
    exact ⟨vs, vs[i], sqT_mono (a.trans b) h, List.getElem?_eq_getElem hi⟩
  yld := fun i d Z H x H' hd a b y => by
    obtain ⟨e, y⟩ := y
    subst e
    obtain ⟨v, h1, h2⟩ := r.get hd
    have e2 := y vs (sqT_mono (a.trans b) h)
    rw [h1] at e2
    cases e2
    exact ⟨Z, Grow.refl b, h2.mono a⟩
  stop := fun i Z H hi a b => ⟨vs, sqT_mono (a.trans b) h, by rw [r.length]; exact hi⟩
theorem walk_range {lo : Int} {n : Nat} : WalkD K pa Z0 (Itr lo n) ((List.range n).map fun i : Nat => PyData.int (lo + i)) false where
  go := fun i Z H hi a b => by
    have z : i < n := by simpa using hi
    exact z
  yld := fun i d Z H x H' hd a b y => by
    obtain ⟨e, y⟩ := y
    subst e
    subst y
    rw [List.getElem?_map] at hd
    obtain ⟨j, h1, h2⟩ := Option.map_eq_some_iff.mp hd
    have hj : j = i := by
      have := List.getElem?_eq_some_iff.mp h1
      obtain ⟨h3, h4⟩ := this
      rw [List.getElem_range] at h4
      exact h4.symm
    subst hj
    subst h2
    exact ⟨Z, Grow.refl b, .int _⟩
  stop := fun i Z H hi a b => by
    have : n ≤ i := by simpa using hi
    exact this
end
def iItems (f : B D) : B (List D) := do
  let d ← f
  match d with
  | .list ds => pure ds
  | .tuple ds => pure ds
  | .dict [(.bool true, .list ds)] => pure ds
  | _ => lift none
/-- at a list or at a tuple -/
def iSeq (K : PySem.W.Frag) (tl : TE) : TI := fun σ H R => tl σ H fun x H1 => ∃ a, x = .ref a ∧ (((∃ xs, SqL K H1 a xs) ∧ R (Itl K a) H1) ∨ ((∃ xs, SqT K H1 a xs) ∧ R (Itt K a) H1))
theorem pi_seq {X : Cx} {tg l : Expr} {tl : TE} (hl : PE X l tl) : PI X tg l (iSeq X.K tl) := by
  refine ⟨fun pins s σ H R I h => ?_⟩
  refine thn (hl.run pins s σ H _ I h) fun v s1 ⟨x, H1, I1, r1, q1⟩ => ?_
  obtain ⟨a, e, q⟩ := q1
  subst e
  cases r1
  have fin : ∀ {h' : Heap} {t : Nat} {tn : Nat → Heap → Prop} {J : It}, True := fun {_ _ _ _} => trivial
  have fresh : ∀ b, b ∈ [s1.heap.objs.size] → FpOk X pins H1 b := fun b hb => by
    have eb : b = s1.heap.objs.size := by simpa using hb
    rw [eb]
    exact I1.fpOk (Nat.le_refl _) (I1.hok.fresh (Nat.le_refl _))
  rcases q with ⟨⟨xs, hq⟩, q⟩ | ⟨⟨xs, hq⟩, q⟩
  · obtain ⟨its, _, pl, _⟩ := I1.list hq
    exact wpAny_pyIter_list pl.isList ⟨_, _, _, _, H1, rfl, I1.kept (t' := s1.toks) fun b o e => Heap.get?_push_of_some _ e, turn_list a _, ⟨_, Heap.get?_push_size _ rfl, rfl, rfl⟩, fresh, q⟩
  · obtain ⟨its, _, pl, _⟩ := I1.tuple hq
    exact wpAny_pyIter_tuple (show s1.heap.IsTuple a its.toArray from pl) ⟨_, _, _, _, H1, rfl, I1.kept (t' := s1.toks) fun b o e => Heap.get?_push_of_some _ e, turn_tuple a _, ⟨_, Heap.get?_push_size _ rfl, rfl, rfl⟩, fresh, q⟩
def rangeD (lo hi : Int) : List D := (List.range (hi - lo).toNat).map fun i : Nat => PyData.int (lo + i)
def iR1 (f : B D) : B (List D) := do
  let d ← f
  lift (match d with
    | .int n => if -(2 ^ 62) ≤ n ∧ n < 2 ^ 62 then some (rangeD 0 n) else none
    | _ => none)
def iR2 (fa fb : B D) : B (List D) := do
  let d ← fa
  let e ← fb
  lift (match d, e with
    | .int m, .int n => if -(2 ^ 62) ≤ m ∧ m < 2 ^ 62 ∧ -(2 ^ 62) ≤ n ∧ n < 2 ^ 62 then some (rangeD m n) else none
    | _, _ => none)
section
variable {X : Cx} {tg l a b : Expr} {f fa fb : B D} {p pos : Pos}
theorem frz_list {K : PySem.W.Frag} {pa : Addr} {Z0 : Hp} {v : V} {ds : List D} (r : Rep K pa Z0 v (.list ds)) : ∃ a vs, v = .ref a ∧ Z0 a = some (.lst vs) ∧ RepA K pa Z0 vs ds := by
  cases r with
  | lst h ra => exact ⟨_, _, rfl, h, ra⟩
theorem fi_seq (hl : FE X l f) : FI X tg l false (iItems f) := by
  refine ⟨fun pa B0 W tk => ⟨fun pins s σ H R I ⟨Z, st, k, w⟩ => (pi_seq (hl.pe pa B0 W tk)).run pins s σ H R I ?_⟩⟩
  refine ⟨Z, st, k, (End.bind w).imp fun d s1 Z1 H1 k1 _ w1 v rv => ?_⟩
  have isL : ∀ a vs ds, v = .ref a → SqL X.K Z1 a vs → RepA X.K pa Z1 vs ds → (∀ J, WalkD X.K pa Z1 J ds false → R J H1) → ∃ a, v = .ref a ∧ (((∃ xs, SqL X.K H1 a xs) ∧ R (Itl X.K a) H1) ∨ ((∃ xs, SqT X.K H1 a xs) ∧ R (Itt X.K a) H1)) := fun a vs ds hv hz ra w2 => by
    subst hv
    refine ⟨a, rfl, .inl ⟨⟨vs, k1.sub.seq hz⟩, w2 _ ⟨fun i Z H hi q1 q2 => ?_, fun i d Z H x H' hd q1 q2 y => ?_, fun i Z H hi q1 q2 => ⟨vs, (q1.trans q2).seq hz, by rw [ra.length]; exact hi⟩⟩⟩⟩
    · rw [← ra.length] at hi
      exact ⟨vs, vs[i], (q1.trans q2).seq hz, List.getElem?_eq_getElem hi⟩
    · obtain ⟨e, y⟩ := y
      subst e
      obtain ⟨u, h1, h2⟩ := ra.get hd
      have e2 := y vs ((q1.trans q2).seq hz)
      rw [h1] at e2
      cases e2
      exact ⟨Z, Grow.refl q2, h2.mono q1⟩
  cases d with
  | list ds =>
    have w2 := End.pure (show End X.K X.mg pa B0 W σ Z1 (.ok ds s1) _ from w1) k1
    obtain ⟨a, vs, hv, hz, ra⟩ := frz_list rv
    exact isL a vs ds hv (.of hz) ra w2
  | tuple ds =>
    have w2 := End.pure (show End X.K X.mg pa B0 W σ Z1 (.ok ds s1) _ from w1) k1
    cases rv with
    | tup hq ra => exact ⟨_, rfl, .inr ⟨⟨_, sqT_mono k1.sub hq.sq⟩, w2 _ (walk_tup hq.sq ra)⟩⟩
  | dict kvs =>
    cases rv with
    | pool => exact False.elim w1
    | dic0 h => exact False.elim w1
    | scr hq ra =>
      rename_i ds
      have w2 := End.pure (show End X.K X.mg pa B0 W σ Z1 (.ok ds s1) _ from w1) k1
      exact isL _ _ ds rfl hq ra w2
  | _ => exact False.elim w1
theorem fi_range1 (hg : Gl X "range") (hm : X.mg "range" = none) (ha : FE X a fa) (hs : starEach [a] X.env = [(false, eval a X.env)] := by rfl) (h2 : starEach [a] X.env = (false, eval a X.env) :: starEach [] X.env := by rfl) : FI X tg (.Call (.Name "range" p) [a] [] pos) false (iR1 fa) := by
  refine ⟨fun pa B0 W tk => ⟨fun pins s σ H R I ⟨Z, st, k, w⟩ => (pi_range1 hg hm (pa_cons (ha.pe pa B0 W tk) pa_nil h2) hs).run pins s σ H R I ?_⟩⟩
  refine ⟨Z, st, k, (End.bind w).imp fun d s1 Z1 H1 k1 _ w1 v rv => ?_⟩
  cases d with
  | int n =>
    cases rv
    obtain ⟨ds, hd, w2⟩ := End.lift1 w1
    simp only at hd
    split at hd
    · rename_i hn
      cases hd
      have w3 := End.pure w2 k1
      have e : rangeD 0 n = (List.range n.toNat).map fun i : Nat => PyData.int (0 + i) := by unfold rangeD; rw [Int.sub_zero]
      exact ⟨n, rfl, hn.1, hn.2, w3 _ (by rw [e]; exact walk_range)⟩
    · cases hd
  | _ => exact False.elim w1
theorem fi_range2 (hg : Gl X "range") (hm : X.mg "range" = none) (ha : FE X a fa) (hb : FE X b fb) (hs : starEach [a, b] X.env = [(false, eval a X.env), (false, eval b X.env)] := by rfl) (hs2 : starEach [b] X.env = [(false, eval b X.env)] := by rfl)
    (h2 : starEach [a, b] X.env = (false, eval a X.env) :: starEach [b] X.env := by rfl) (h3 : starEach [b] X.env = (false, eval b X.env) :: starEach [] X.env := by rfl) : FI X tg (.Call (.Name "range" p) [a, b] [] pos) false (iR2 fa fb) := by
  refine ⟨fun pa B0 W tk => ⟨fun pins s σ H R I ⟨Z, st, k, w⟩ => (pi_range2 hg hm (pa_cons (ha.pe pa B0 W tk) (pa_cons (hb.pe pa B0 W tk) pa_nil h3) h2) hs hs2).run pins s σ H R I ?_⟩⟩
  refine ⟨Z, st, k, (End.bind w).imp fun d s1 Z1 H1 k1 _ w1 v rv => ⟨Z1, s1, k1, (End.bind w1).imp fun e s2 Z2 H2 k2 _ w2 u ru => ?_⟩⟩
  cases d with
  | int m =>
    cases e with
    | int n =>
      cases rv
      cases ru
      obtain ⟨ds, hd, w3⟩ := End.lift1 w2
      simp only at hd
      split at hd
      · rename_i hn
        cases hd
        exact ⟨m, n, rfl, hn, (End.pure w3 k2) _ walk_range⟩
      · cases hd
    | _ => exact False.elim w2
  | _ => exact False.elim w2
end

/-! ### for, while -/
def forB (a : Asg) (g : B Fl) : List D → B Fl
  | [] => fun s => .ok .nx s
  | d :: ds => fun s => match a d s with
    | .ok _ s1 => (g s1).bind fun fl s2 => match fl with
      | .nx => forB a g ds s2
      | .ct => forB a g ds s2
      | .bk => .ok .nx s2
      | .rt v => .ok (.rt v) s2
    | _ => .bad
def sFor (fi : B (List D)) (a : Asg) (g : B Fl) : B Fl := fun s => (fi s).bind fun ds s1 => forB a g ds s1
def whileN (c : B Bool) (g : B Fl) : Nat → B Fl
  | 0 => fun _ => .bad
  | n + 1 => fun s => (c s).bind fun b s1 => if b then (g s1).bind fun fl s2 => match fl with
      | .nx => whileN c g n s2
      | .ct => whileN c g n s2
      | .bk => .ok .nx s2
      | .rt v => .ok (.rt v) s2
    else .ok .nx s1
section
variable {X : Cx} {tg iter c : Expr} {body : List Stmt} {fi : B (List D)} {tr : Bool} {ix : List Nat} {a : Asg} {g : B Fl} {t : B Bool} {pos : Pos}
/-- behind a turn -/
theorem turn_aux {K : PySem.W.Frag} {mg : Str → Option Value} {pa : Addr} {B0 : Hp} {W : WX} {Z : Hp} {r : R S Fl} {nxt : S → R S Fl} {En : Ends}
    (w : EndS K mg pa B0 W Z (r.bind fun fl s2 => match fl with
      | .nx => nxt s2
      | .ct => nxt s2
      | .bk => .ok .nx s2
      | .rt v => .ok (.rt v) s2) En) :
    EndS K mg pa B0 W Z r { En with nx := fun σ H => ∃ Z' s', Ok K pa B0 Z' H σ s' ∧ ZExt B0 Z Z' ∧ EndS K mg pa B0 W Z' (nxt s') En, ct := fun σ H => ∃ Z' s', Ok K pa B0 Z' H σ s' ∧ ZExt B0 Z Z' ∧ EndS K mg pa B0 W Z' (nxt s') En, bk := En.nx } := by
  cases r with
  | ok fl s2 =>
    cases fl with
    | nx => exact fun σ H' Z' k z => ⟨Z', s2, k, z, EndS.mono z w (fun _ _ q => q) (fun _ _ q => q) (fun _ _ q => q) fun _ _ q => q⟩
    | ct => exact fun σ H' Z' k z => ⟨Z', s2, k, z, EndS.mono z w (fun _ _ q => q) (fun _ _ q => q) (fun _ _ q => q) fun _ _ q => q⟩
    | bk => exact w
    | rt v => exact w
  | ex e s2 => exact w
  | bad => exact w
theorem fs_for (hp : PassesOwn (model X.prog X.w) X.A X.env X.xe) (hc : X.calm = true) (hi : FI X tg iter tr fi) (hg : FG X tg tr ix a) (hb : FSs X body g) (hs : ∀ x, foldedSetIterable iter X.env x = pure x := by intro _; rfl) :
    FS X (.For tg iter body [] pos) (sFor fi a g) := by
  refine ⟨fun pa B0 W tk => ⟨fun pins s σ H En I ⟨Z, st, k, w⟩ => (ps_for hp hc (hi.pi pa B0 W tk) (hg.pg pa B0) (hb.ps pa B0 W tk) hs).run pins s σ H En I ?_⟩⟩
  refine ⟨Z, st, k, (EndS.ofE w).imp fun ds s1 Z1 H1 k1 _ w1 J wd => ?_⟩
  refine ⟨fun i m σ' H' => ∃ Z' s', Ok X.K pa B0 Z' H' σ' s' ∧ Same Z1 Z' ∧ i ≤ ds.length ∧ m = ds.length - i ∧ EndS X.K X.mg pa B0 W Z' (forB a g (ds.drop i) s') En, ⟨ds.length, Z1, s1, k1, Same.refl _, Nat.zero_le _, rfl, by rw [List.drop_zero]; exact w1⟩, fun i m σ' H' hW => ?_⟩
  obtain ⟨Z', s', k', zz, hi', rfl, w'⟩ := hW
  by_cases hlt : i < ds.length
  · have hdrop : ds.drop i = ds[i] :: ds.drop (i + 1) := List.drop_eq_getElem_cons hlt
    rw [hdrop] at w'
    refine .inr ⟨wd.go i Z' H' hlt zz k'.sub, fun σ2 H2 => ∃ Z2 s2, Ok X.K pa B0 Z2 H2 σ2 s2 ∧ Same Z1 Z2 ∧ EndS X.K X.mg pa B0 W Z2 (forB a g (ds.drop (i + 1)) s2) En, fun σ2 H2 ⟨Z2, s2, q1, q2, q3⟩ => ⟨ds.length - (i + 1), by omega, Z2, s2, q1, q2, hlt, rfl, q3⟩, fun x H2 hy => ?_⟩
    obtain ⟨Z2, gr, rx⟩ := wd.yld i ds[i] Z' H' x H2 (List.getElem?_eq_getElem hlt) zz k'.sub hy
    refine ⟨Z2, s', ds[i], k'.grow gr, rx, ?_⟩
    have w' : EndS X.K X.mg pa B0 W Z' (match a ds[i] s' with
      | .ok _ s1 => (g s1).bind fun fl s2 => match fl with
        | .nx => forB a g (ds.drop (i + 1)) s2
        | .ct => forB a g (ds.drop (i + 1)) s2
        | .bk => .ok .nx s2
        | .rt v => .ok (.rt v) s2
      | _ => .bad) En := w'
    cases e : a ds[i] s' with
    | ok u s3 =>
      rw [e] at w'
      intro σ3 H3 Z3 k3 z3 _ _
      refine ⟨Z3, s3, k3, ?_⟩
      have z4 := (k'.ext gr).trans z3
      have w4 := EndS.mono z4 (turn_aux (nxt := forB a g (ds.drop (i + 1))) w') (En' := { En with nx := fun σ2 H2 => ∃ Z2 s2, Ok X.K pa B0 Z2 H2 σ2 s2 ∧ Same Z1 Z2 ∧ EndS X.K X.mg pa B0 W Z2 (forB a g (ds.drop (i + 1)) s2) En, ct := fun σ2 H2 => ∃ Z2 s2, Ok X.K pa B0 Z2 H2 σ2 s2 ∧ Same Z1 Z2 ∧ EndS X.K X.mg pa B0 W Z2 (forB a g (ds.drop (i + 1)) s2) En, bk := En.nx })
        (fun σ H ⟨Zq, sq, q1, q2, q3⟩ => ⟨Zq, sq, q1, zz.trans q2.zz, q3⟩) (fun _ _ q => q) (fun σ H ⟨Zq, sq, q1, q2, q3⟩ => ⟨Zq, sq, q1, zz.trans q2.zz, q3⟩) fun _ _ q => q
      exact w4
    | ex _ _ => rw [e] at w'; exact False.elim w'
    | bad => rw [e] at w'; exact False.elim w'
  · have hlen : ds.drop i = [] := List.drop_eq_nil_of_le (Nat.le_of_not_lt hlt)
    rw [hlen] at w'
    exact .inl ⟨wd.stop i Z' H' (Nat.le_of_not_lt hlt) zz k'.sub, EndS.nx w' k'⟩
theorem fs_while (n : Nat) (hp : PassesOwn (model X.prog X.w) X.A X.env X.xe) (hc : FT X c t) (hb : FSs X body g) : FS X (.While c body [] pos) (whileN t g n) := by
  refine ⟨fun pa B0 W tk => ⟨fun pins s σ H En I ⟨Z, st, k, w⟩ => (ps_while hp (hc.pt pa B0 W tk) (hb.ps pa B0 W tk)).run pins s σ H En I ?_⟩⟩
  refine ⟨fun m σ' H' => ∃ Z' s', Ok X.K pa B0 Z' H' σ' s' ∧ EndS X.K X.mg pa B0 W Z' (whileN t g m s') En, ⟨n, Z, st, k, w⟩, fun m σ' H' hW => ?_⟩
  obtain ⟨Z', s', k', w'⟩ := hW
  cases m with
  | zero => exact False.elim w'
  | succ m =>
    refine ⟨Z', s', k', (EndS.ofE w').imp fun b s1 Z1 H1 k1 _ w1 => ?_⟩
    cases b with
    | false => exact iteF (EndS.nx w1 k1)
    | true =>
      refine iteT ⟨fun σ2 H2 => ∃ Z2 s2, Ok X.K pa B0 Z2 H2 σ2 s2 ∧ EndS X.K X.mg pa B0 W Z2 (whileN t g m s2) En, fun σ2 H2 q => ⟨m, Nat.lt_succ_self m, q⟩, Z1, s1, k1, ?_⟩
      exact EndS.mono (ZExt.refl B0 Z1) (turn_aux (nxt := whileN t g m) w1) (fun σ H ⟨Zq, sq, q1, q2, q3⟩ => ⟨Zq, sq, q1, q3⟩) (fun _ _ q => q) (fun σ H ⟨Zq, sq, q1, q2, q3⟩ => ⟨Zq, sq, q1, q3⟩) fun _ _ q => q
end
end FL
set_option maxHeartbeats 1000000
/-! FL6: comprehensions. -/
namespace FL
open PySem PySem.Spec PyProof.Rows L2

def wipeE (env : List Sl) : List Nat → List Sl
  | [] => env
  | v :: vs => (wipeE env vs).set v .no
/-- the own slots as they stood ahead of the block -/
def backE (old env : List Sl) : List Nat → List Sl
  | [] => env
  | v :: vs => (backE old env vs).set v (match old[v]? with
    | some (.v d) => .v d
    | _ => .no)
def backS (old : S) (own : List Nat) (s : S) : R S Unit := if s.pool.isSome = old.pool.isSome then .ok () { s with env := backE old.env s.env own } else .bad
/-- one turn: the target, the test, the element -/
def turnB (a : Asg) (c : B Bool) (g : B D) (d : D) : B (Option D) := fun s => match a d s with
  | .ok _ s1 => match c s1 with
    | .ok true s2 => match g s2 with
      | .ok y s3 => .ok (some y) s3
      | _ => .bad
    | .ok false s2 => .ok none s2
    | _ => .bad
  | _ => .bad
def lcB (own : List Nat) (a : Asg) (c : B Bool) (g : B D) : List D → B (List D)
  | [] => fun s => .ok [] s
  | d :: ds => fun s => (turnB a c g d { s with env := wipeE s.env own }).bind fun o s1 => (backS s own s1).bind fun _ s2 => (lcB own a c g ds s2).bind fun ys s3 => .ok (match o with
    | some y => y :: ys
    | none => ys) s3
def eLc (fi : B (List D)) (own : List Nat) (a : Asg) (c : B Bool) (g : B D) : B (List D) := fun s => (fi s).bind fun ds s1 => (lcB own a c g ds s1).bind fun ys s2 => (FL.lift (few ys) s2)
def bYes : B Bool := fun s => .ok true s
structure FTs (X : Cx) (ifs : List Expr) (t : B Bool) : Prop where
  pt : ∀ pa B0 W, Takes X W → PTs X ifs (tT X.K X.mg pa B0 W t)
section
variable {X : Cx} {c : Expr} {t : B Bool}
theorem fts_nil : FTs X [] bYes := ⟨fun pa B0 W tk => ⟨fun pins s σ H Q I ⟨Z, st, k, w⟩ => pts_nil.run pins s σ H Q I (End.pure w k)⟩⟩
theorem fts_one (h : FT X c t) : FTs X [c] t := ⟨fun pa B0 W tk => pts_one (h.pt pa B0 W tk)⟩
end
theorem wipe_len (σ : VSt) : ∀ vs : List Nat, (wipe σ vs).length = σ.length := wipe_length σ
theorem wipeE_len (env : List Sl) : ∀ vs : List Nat, (wipeE env vs).length = env.length
  | [] => rfl
  | v :: vs => by unfold wipeE; rw [List.length_set, wipeE_len env vs]
theorem backE_len (old env : List Sl) : ∀ vs : List Nat, (backE old env vs).length = env.length
  | [] => rfl
  | v :: vs => by unfold backE; rw [List.length_set, backE_len old env vs]
theorem wipe_at {σ : VSt} {i : Nat} : ∀ {vs : List Nat}, i ∉ vs → (wipe σ vs)[i]? = σ[i]?
  | [], _ => rfl
  | v :: vs, h => by
    unfold wipe
    rw [List.getElem?_set_ne (fun e => h (by simp [e])), wipe_at fun q => h (List.mem_cons_of_mem _ q)]
theorem wipeE_at {env : List Sl} {i : Nat} {sl : Sl} : ∀ {vs : List Nat}, (wipeE env vs)[i]? = some sl → (i ∉ vs ∧ env[i]? = some sl) ∨ sl = .no
  | [], h => .inl ⟨by simp, h⟩
  | v :: vs, h => by
    unfold wipeE at h
    by_cases hv : v = i
    · subst hv
      exact .inr (nth_set_self h)
    · rw [List.getElem?_set_ne hv] at h
      rcases wipeE_at h with ⟨h1, h2⟩ | h1
      · exact .inl ⟨by simp only [List.mem_cons, not_or]; exact ⟨fun e => hv e.symm, h1⟩, h2⟩
      · exact .inr h1
theorem backE_at {old env : List Sl} {i : Nat} {sl : Sl} : ∀ {vs : List Nat}, (backE old env vs)[i]? = some sl → (i ∉ vs ∧ env[i]? = some sl) ∨ sl = .no ∨ (∃ d, sl = .v d ∧ old[i]? = some (.v d))
  | [], h => .inl ⟨by simp, h⟩
  | v :: vs, h => by
    unfold backE at h
    by_cases hv : v = i
    · subst hv
      have e := nth_set_self h
      cases q : old[v]? with
      | none => rw [q] at e; exact .inr (.inl e)
      | some x =>
        cases x with
        | no => rw [q] at e; exact .inr (.inl e)
        | l xs => rw [q] at e; exact .inr (.inl e)
        | v d => rw [q] at e; exact .inr (.inr ⟨d, e, rfl⟩)
    · rw [List.getElem?_set_ne hv] at h
      rcases backE_at h with ⟨h1, h2⟩ | h1
      · exact .inl ⟨by simp only [List.mem_cons, not_or]; exact ⟨fun e => hv e.symm, h1⟩, h2⟩
      · exact .inr h1
section
variable {K : PySem.W.Frag} {pa : Addr} {B0 : Hp} {Z Z' H H' : Hp} {σ σ' : VSt} {s s' : S}
theorem Ok.wipe (k : Ok K pa B0 Z H σ s) (own : List Nat) : Ok K pa B0 Z H (wipe σ own) { s with env := wipeE s.env own } := by
  refine ⟨by rw [wipe_len]; show σ.length = (wipeE s.env own).length; rw [wipeE_len]; exact k.len, k.sub, k.base, fun i d e => ?_, fun i xs e => ?_, fun i j xs ys p hne h1 h2 g1 g2 => ?_, k.pool⟩
  · rcases wipeE_at e with ⟨h1, h2⟩ | h
    · obtain ⟨v, q1, q2⟩ := k.val i d h2
      exact ⟨v, by rw [wipe_at h1]; exact q1, q2⟩
    · cases h
  · rcases wipeE_at e with ⟨h1, h2⟩ | h
    · obtain ⟨p, vs, q1, q2⟩ := k.own i xs h2
      exact ⟨p, vs, by rw [wipe_at h1]; exact q1, q2⟩
    · cases h
  · rcases wipeE_at h1 with ⟨a1, a2⟩ | a
    · rcases wipeE_at h2 with ⟨b1, b2⟩ | b
      · rw [wipe_at a1] at g1
        rw [wipe_at b1] at g2
        exact k.apart i j xs ys p hne a2 b2 g1 g2
      · cases b
    · cases a
/-- behind a turn -/
theorem Ok.back (k0 : Ok K pa B0 Z H σ s) (k1 : Ok K pa B0 Z' H' σ' s') (zz : Same Z Z') (own : List Nat) (hl : σ'.length = σ.length) (hs : ∀ j, j ∉ own → σ'[j]? = σ[j]?) : Ok K pa B0 Z' H' σ { s' with env := backE s.env s'.env own } := by
  refine ⟨by show σ.length = (backE s.env s'.env own).length; rw [backE_len, ← hl]; exact k1.len, k1.sub, k1.base, fun i d e => ?_, fun i xs e => ?_, fun i j xs ys p hne h1 h2 g1 g2 => ?_, k1.pool⟩
  · rcases backE_at e with ⟨h1, h2⟩ | h | ⟨d', h, h2⟩
    · obtain ⟨v, q1, q2⟩ := k1.val i d h2
      exact ⟨v, by rw [← hs i h1]; exact q1, q2⟩
    · cases h
    · cases h
      obtain ⟨v, q1, q2⟩ := k0.val i d h2
      exact ⟨v, q1, q2.mono zz⟩
  · rcases backE_at e with ⟨h1, h2⟩ | h | ⟨d', h, h2⟩
    · obtain ⟨p, vs, q1, q2⟩ := k1.own i xs h2
      exact ⟨p, vs, by rw [← hs i h1]; exact q1, q2⟩
    · cases h
    · cases h
  · rcases backE_at h1 with ⟨a1, a2⟩ | a | ⟨_, a, _⟩
    · rcases backE_at h2 with ⟨b1, b2⟩ | b | ⟨_, b, _⟩
      · exact k1.apart i j xs ys p hne a2 b2 (by rw [hs i a1]; exact g1) (by rw [hs j b1]; exact g2)
      · cases b
      · cases b
    · cases a
    · cases a
/-- a list that stands in the base is written -/
theorem Ok.putBase {q : Addr} {o o' : HO} (k : Ok K pa (upd B0 q o) Z H σ s) (hz : Z q = none) (hp : q ≠ pa ∨ s.pool = none) : Ok K pa (upd B0 q o') Z (upd H q o') σ s := by
  have hpq : ∀ ps, s.pool = some ps → pa ≠ q := fun ps e z => by
    rcases hp with h | h
    · exact h z.symm
    · rw [h] at e; cases e
  refine ⟨k.len, fun b x e => ?_, fun b x c e => ?_, k.val, fun i xs e => ?_, k.apart, fun ps e => ?_⟩
  · have hb : b ≠ q := fun z => by rw [z, hz] at e; cases e
    rw [upd_ne hb]
    exact k.sub b x e
  · by_cases hb : b = q
    · subst hb
      rw [upd_same] at e ⊢
      exact e
    · rw [upd_ne hb] at e ⊢
      exact k.base b x c (by rw [upd_ne hb]; exact e)
  · obtain ⟨p, vs, g1, g2, g3, g4, g5⟩ := k.own i xs e
    have hb : p ≠ q := fun z => by rw [z, upd_same] at g4; cases g4
    rw [upd_ne hb] at g4
    exact ⟨p, vs, g1, by rw [upd_ne hb]; exact g2, g3, by rw [upd_ne hb]; exact g4, g5⟩
  · obtain ⟨g1, g2, x, g3⟩ := k.pool ps e
    have hb := hpq ps e
    rw [upd_ne hb] at g3
    exact ⟨by rw [upd_ne hb]; exact g1, g2, x, by rw [upd_ne hb]; exact g3⟩
end
theorem wipe_eq {σ σ' : VSt} {own ix : List Nat} (hl : σ'.length = (wipe σ own).length) (hs : ∀ j, j ∉ ix → σ'[j]? = (wipe σ own)[j]?) (hi : ∀ j ∈ ix, j ∈ own) : wipe σ' own = wipe σ own := by
  apply List.ext_getElem?
  intro j
  by_cases hj : j ∈ own
  · have none_at : ∀ (τ : VSt), τ.length = σ.length → ∀ vs : List Nat, j ∈ vs → (wipe τ vs)[j]? = if j < σ.length then some none else none := fun τ hτ vs => by
      induction vs with
      | nil => intro h; simp at h
      | cons v vs ih =>
        intro h
        unfold wipe
        by_cases hv : v = j
        · subst hv
          by_cases hlt : v < σ.length
          · rw [List.getElem?_set_self (by rw [wipe_len, hτ]; exact hlt), if_pos hlt]
          · rw [List.getElem?_eq_none (by rw [List.length_set, wipe_len, hτ]; exact Nat.le_of_not_lt hlt), if_neg hlt]
        · rw [List.getElem?_set_ne hv]
          exact ih (by
            rcases List.mem_cons.mp h with e | e
            · exact absurd e.symm hv
            · exact e)
    rw [none_at σ' (by rw [hl, wipe_len]) own hj, none_at σ rfl own hj]
  · rw [wipe_at hj, hs j fun q => hj (hi j q)]

section
variable {X : Cx} {tg iter elt : Expr} {ifs : List Expr} {scope : Scope} {own : List (Str × Nat)} {fi : B (List D)} {tr : Bool} {ix : List Nat} {a : Asg} {c : B Bool} {g : B D} {pos : Pos}
abbrev WNo : WX := fun _ _ _ _ => False
/-- the block's readings, whatever stands around -/
def gBlk (K : PySem.W.Frag) (pa : Addr) (ix : List Nat) (tr : Bool) (a : Asg) : TG := fun v σ H Q => ∃ B1, tG K pa B1 ix tr a v σ H Q
def cBlk (K : PySem.W.Frag) (mg : Str → Option Value) (pa : Addr) (c : B Bool) : TT := fun σ H Q => ∃ B1, tT K mg pa B1 WNo c σ H Q
def eBlk (K : PySem.W.Frag) (mg : Str → Option Value) (pa : Addr) (g : B D) : TE := fun σ H Q => ∃ B1, tE K mg pa B1 WNo g σ H Q
theorem turnB_noex (d : D) (s : S) (e : Exn) (s' : S) : turnB a c g d s ≠ .ex e s' := by
  intro h
  unfold turnB at h
  split at h
  · split at h
    · split at h <;> cases h
    · cases h
    · cases h
  · cases h
theorem lcB_noex {vs : List Nat} : ∀ (ds : List D) (s : S) (e : Exn) (s' : S), lcB vs a c g ds s ≠ .ex e s'
  | [], s, e, s' => fun h => by cases h
  | d :: ds, s, e, s' => fun h => by
    unfold lcB at h
    cases q : turnB a c g d { s with env := wipeE s.env vs } with
    | ex x s1 => exact turnB_noex _ _ _ _ q
    | bad => rw [q] at h; cases h
    | ok o s1 =>
      rw [q] at h
      have h : ((backS s vs s1).bind fun _ s2 => (lcB vs a c g ds s2).bind fun ys s3 => R.ok (match o with
        | some y => y :: ys
        | none => ys) s3) = R.ex e s' := h
      unfold backS at h
      split at h
      · have h : ((lcB vs a c g ds { s1 with env := backE s.env s1.env vs }).bind fun ys s3 => R.ok (match o with
          | some y => y :: ys
          | none => ys) s3) = R.ex e s' := h
        cases q2 : lcB vs a c g ds { s1 with env := backE s.env s1.env vs } with
        | ok ys s3 => rw [q2] at h; cases h
        | ex x s3 => exact lcB_noex ds _ _ _ q2
        | bad => rw [q2] at h; cases h
      · cases h
theorem lc_read {K : PySem.W.Frag} {mg : Str → Option Value} {pa : Addr} {B0 : Hp} {W : WX} {vs : List Nat} (hix : ∀ j ∈ ix, j ∈ vs) (σ : VSt) (H : Hp) (Q : VK) (h : tO K mg pa B0 W (eLc fi vs a c g) σ H Q) :
    tLc (tI K mg pa B0 W tr fi) (gBlk K pa ix tr a) (cBlk K mg pa c) (eBlk K mg pa g) vs σ H Q := by
  obtain ⟨Z, st, k, w⟩ := h
  refine ⟨Z, st, k, (End.bind (show End K mg pa B0 W σ Z ((fi st).bind fun ds s1 => (lcB vs a c g ds s1).bind fun ys s2 => FL.lift (few ys) s2) _ from w)).imp fun ds s1 Z1 H1 k1 z1 w1 J wd Dd hD => ?_⟩
  have f1 := k1.fresh hD
  have hDp : ∀ ps, s1.pool = some ps → Dd ≠ pa := fun ps e z => by
    have := (k1.pool ps e).1
    rw [← z, hD] at this
    cases this
  -- the invariant
  refine ⟨fun i m H' => ∃ Z' s' acc ws, Ok K pa (upd B0 Dd (.lst ws)) Z' H' σ s' ∧ ZExt B0 Z1 Z' ∧ Z' Dd = none ∧ s'.pool.isSome = s1.pool.isSome ∧ RepA K pa Z' ws acc ∧ i ≤ ds.length ∧ m = ds.length - i ∧
      End K mg pa B0 W σ Z' ((lcB vs a c g (ds.drop i) s').bind fun ys s2 => FL.lift (few (acc ++ ys)) s2) fun ds s' Z' H' => ∀ p vs, H' p = some (.lst vs) → Fresh K pa B0 Z' σ s' p → RepA K pa Z' vs ds → Q (.ref p) H',
    ⟨ds.length, Z1, s1, [], [], ?_, ZExt.refl _ _, f1.z, rfl, .nil, Nat.zero_le _, rfl, ?_⟩, fun i m H' hW => ?_⟩
  · have g0 := Grow.new0 k1.sub (o := .lst []) hD
    have k2 := k1.grow g0
    refine k2.rebase (fun b o cnd e => ?_) (fun i xs p e hp => ?_) fun ps e => ?_
    · by_cases hb : b = Dd
      · subst hb
        rw [upd_same] at e ⊢
        exact e
      · rw [upd_ne hb] at e
        exact k2.base b o cnd e
    · have hb : p ≠ Dd := fun z => f1.own i xs e (z ▸ hp)
      rw [upd_ne hb]
      obtain ⟨_, _, _, h4, _⟩ := k1.ownH e hp
      exact h4
    · obtain ⟨o, ho⟩ := (k1.pool ps e).2.2
      exact ⟨o, by rw [upd_ne (Ne.symm (hDp ps e))]; exact ho⟩
  · rw [List.drop_zero]
    exact w1
  · obtain ⟨Z', s', acc, ws, k', z', hz', hpl, ra, hi', rfl, w'⟩ := hW
    have hpool : Dd ≠ pa ∨ s'.pool = none := by
      cases e : s1.pool with
      | some ps => exact .inl (hDp ps e)
      | none =>
        rw [e] at hpl
        refine .inr ?_
        cases e2 : s'.pool with
        | none => rfl
        | some _ => rw [e2] at hpl; cases hpl
    have hHD : H' Dd = some (.lst ws) := k'.base Dd _ hpool upd_same
    by_cases hlt : i < ds.length
    · have hdrop : ds.drop i = ds[i] :: ds.drop (i + 1) := List.drop_eq_getElem_cons hlt
      rw [hdrop] at w'
      have w' : End K mg pa B0 W σ Z' (((turnB a c g ds[i] { s' with env := wipeE s'.env vs }).bind fun o s1 => (backS s' vs s1).bind fun _ s2 => (lcB vs a c g (ds.drop (i + 1)) s2).bind fun ys s3 => .ok (match o with
        | some y => y :: ys
        | none => ys) s3).bind fun ys s2 => FL.lift (few (acc ++ ys)) s2) _ := w'
      refine .inr ⟨wd.go i Z' H' hlt z'.zz k'.sub, fun H2 => ∃ Z' s' acc ws, Ok K pa (upd B0 Dd (.lst ws)) Z' H2 σ s' ∧ ZExt B0 Z1 Z' ∧ Z' Dd = none ∧ s'.pool.isSome = s1.pool.isSome ∧ RepA K pa Z' ws acc ∧
        End K mg pa B0 W σ Z' ((lcB vs a c g (ds.drop (i + 1)) s').bind fun ys s2 => FL.lift (few (acc ++ ys)) s2) fun ds s' Z' H' => ∀ p vs, H' p = some (.lst vs) → Fresh K pa B0 Z' σ s' p → RepA K pa Z' vs ds → Q (.ref p) H',
        fun H2 ⟨Z2, s2, acc2, ws2, q1, q2, q3, q4, q5, q6⟩ => ⟨ds.length - (i + 1), by omega, Z2, s2, acc2, ws2, q1, q2, q3, q4, q5, hlt, rfl, q6⟩, fun x H2 hy => ?_⟩
      obtain ⟨Z2, gr, rx⟩ := wd.yld i ds[i] Z' H' x H2 (List.getElem?_eq_getElem hlt) z'.zz k'.sub hy
      have k2 := k'.grow gr
      have kw := k2.wipe vs
      have zB : ∀ {Za Zb : Hp}, ZExt (upd B0 Dd (.lst ws)) Za Zb → ZExt B0 Za Zb ∧ Zb Dd = Za Dd := fun {Za Zb} z => ⟨⟨z.zz, fun b o e => by
        by_cases hb : b = Dd
        · subst hb
          rw [f1.b] at e
          cases e
        · exact z.old b o (by rw [upd_ne hb]; exact e)⟩, z.old Dd _ upd_same⟩
      have zg := zB (k'.ext gr)
      refine ⟨upd B0 Dd (.lst ws), Z2, { s' with env := wipeE s'.env vs }, ds[i], kw, rx, ?_⟩
      cases e : a ds[i] { s' with env := wipeE s'.env vs } with
      | ex _ _ =>
        simp only [turnB, e] at w'
        exact False.elim w'
      | bad =>
        simp only [turnB, e] at w'
        exact False.elim w'
      | ok u sa =>
        simp only [turnB, e] at w'
        intro σ3 H3 Z3 k3 z3 l3 n3
        have hw3 := wipe_eq l3 n3 hix
        have hl3 : σ3.length = σ.length := by rw [l3, wipe_len]
        have hs3 : ∀ j, j ∉ vs → σ3[j]? = σ[j]? := fun j hj => by rw [n3 j fun q => hj (hix j q), wipe_at hj]
        have zb3 := zB z3
        refine ⟨hw3, upd B0 Dd (.lst ws), Z3, sa, k3, ?_⟩
        cases ec : c sa with
        | ex _ _ =>
          simp only [ec] at w'
          exact False.elim w'
        | bad =>
          simp only [ec] at w'
          exact False.elim w'
        | ok b sc =>
          intro H4 Z4 k4 z4
          have zb4 := zB z4
          cases b with
          | false =>
            simp only [ec] at w'
            refine iteF ?_
            -- nothing new
            have w' : End K mg pa B0 W σ Z' ((((backS s' vs sc).bind fun _ s2 => (lcB vs a c g (ds.drop (i + 1)) s2).bind fun ys s3 => .ok ys s3)).bind fun ys s2 => FL.lift (few (acc ++ ys)) s2) _ := w'
            unfold backS at w'
            split at w'
            · rename_i hps
              have kb := Ok.back k2 k4 (zb3.1.zz.trans zb4.1.zz) vs hl3 hs3
              refine ⟨Z4, { sc with env := backE s'.env sc.env vs }, acc, ws, kb, ((z'.trans zg.1).trans zb3.1).trans zb4.1, by rw [zb4.2, zb3.2, zg.2]; exact hz', by rw [← hpl]; exact hps, ra.mono ((gr.zz.trans zb3.1.zz).trans zb4.1.zz), ?_⟩
              have w2 : End K mg pa B0 W σ Z' (((lcB vs a c g (ds.drop (i + 1)) { sc with env := backE s'.env sc.env vs }).bind fun ys s3 => R.ok ys s3).bind fun ys s2 => FL.lift (few (acc ++ ys)) s2) _ := w'
              have er : ∀ r : R S (List D), (r.bind fun ys s3 => R.ok ys s3) = r := fun r => by cases r <;> rfl
              rw [er] at w2
              exact w2.mono ((zg.1.trans zb3.1).trans zb4.1) fun _ _ _ _ q => q
            · exact False.elim w'
          | true =>
            simp only [ec] at w'
            refine iteT ⟨upd B0 Dd (.lst ws), Z4, sc, k4, ?_⟩
            cases eg : g sc with
            | ex _ _ =>
              simp only [eg] at w'
              exact False.elim w'
            | bad =>
              simp only [eg] at w'
              exact False.elim w'
            | ok y sg =>
              simp only [eg] at w'
              intro H5 Z5 k5 z5 v rv
              have zb5 := zB z5
              have w' : End K mg pa B0 W σ Z' ((((backS s' vs sg).bind fun _ s2 => (lcB vs a c g (ds.drop (i + 1)) s2).bind fun ys s3 => .ok (y :: ys) s3)).bind fun ys s2 => FL.lift (few (acc ++ ys)) s2) _ := w'
              unfold backS at w'
              split at w'
              · rename_i hps
                have kb := Ok.back k2 k5 ((zb3.1.zz.trans zb4.1.zz).trans zb5.1.zz) vs hl3 hs3
                have hpool5 : Dd ≠ pa ∨ ({ sg with env := backE s'.env sg.env vs } : S).pool = none := by
                  rcases hpool with h | h
                  · exact .inl h
                  · refine .inr ?_
                    show sg.pool = none
                    rw [h] at hps
                    cases e2 : sg.pool with
                    | none => rfl
                    | some _ => rw [e2] at hps; cases hps
                have hz5 : Z5 Dd = none := by rw [zb5.2, zb4.2, zb3.2, zg.2]; exact hz'
                have hD5 : H5 Dd = some (.lst ws) := k5.base Dd _ hpool5 upd_same
                have zall := (((zg.1.trans zb3.1).trans zb4.1).trans zb5.1)
                have w2 : End K mg pa B0 W σ Z' (((lcB vs a c g (ds.drop (i + 1)) { sg with env := backE s'.env sg.env vs }).bind fun ys s3 => R.ok (y :: ys) s3).bind fun ys s2 => FL.lift (few (acc ++ ys)) s2) _ := w'
                have er : ∀ r : R S (List D), ((r.bind fun ys s3 => R.ok (y :: ys) s3).bind fun ys s2 => FL.lift (few (acc ++ ys)) s2) = r.bind fun ys s2 => FL.lift (few ((acc ++ [y]) ++ ys)) s2 := fun r => by
                  cases r with
                  | ok ys s => show FL.lift (few (acc ++ y :: ys)) s = FL.lift (few ((acc ++ [y]) ++ ys)) s; rw [List.append_assoc]; rfl
                  | ex _ _ => rfl
                  | bad => rfl
                rw [er] at w2
                have hlen : acc.length < sizeLine := by
                  cases q : lcB vs a c g (ds.drop (i + 1)) { sg with env := backE s'.env sg.env vs } with
                  | ok ys s =>
                    rw [q] at w2
                    obtain ⟨es, he, _⟩ := End.lift1 (show End K mg pa B0 W σ Z' (FL.lift (few ((acc ++ [y]) ++ ys)) s) _ from w2)
                    have hf := (few_some he).2
                    rw [List.length_append, List.length_append, List.length_singleton] at hf
                    omega
                  | bad => rw [q] at w2; exact False.elim w2
                  | ex x s => exact absurd q (lcB_noex _ _ _ _)
                refine ⟨ws, hD5, by rw [ra.length]; exact hlen, Z5, { sg with env := backE s'.env sg.env vs }, acc ++ [y], ws ++ [v], kb.putBase hz5 hpool5, z'.trans zall, hz5, by rw [← hpl]; exact hps,
                  (ra.mono (gr.zz.trans ((zb3.1.zz.trans zb4.1.zz).trans zb5.1.zz))).append (.cons rv .nil), w2.mono zall fun _ _ _ _ q => q⟩
              · exact False.elim w'
    · have hlen : ds.drop i = [] := List.drop_eq_nil_of_le (Nat.le_of_not_lt hlt)
      rw [hlen] at w'
      refine .inl ⟨wd.stop i Z' H' (Nat.le_of_not_lt hlt) z'.zz k'.sub, ?_⟩
      have w' : End K mg pa B0 W σ Z' (FL.lift (few (acc ++ [])) s') _ := w'
      rw [List.append_nil] at w'
      obtain ⟨es, he, w2⟩ := End.lift1 w'
      obtain ⟨rfl, _⟩ := few_some he
      have hpp : ∀ ps, s'.pool = some ps → pa ≠ Dd := fun ps e z => by
        rcases hpool with h | h
        · exact h z.symm
        · rw [h] at e; cases e
      have kf : Ok K pa B0 Z' H' σ s' := k'.rebase (fun b o cnd e => by
        have hb : b ≠ Dd := fun z => by rw [z, f1.b] at e; cases e
        exact k'.base b o cnd (by rw [upd_ne hb]; exact e)) (fun j xs p e hp => by
          obtain ⟨_, _, _, h4, _⟩ := k'.ownH e hp
          have hb : p ≠ Dd := fun z => by rw [z, upd_same] at h4; cases h4
          rw [upd_ne hb] at h4
          exact h4) fun ps e => by
            obtain ⟨o, ho⟩ := (k'.pool ps e).2.2
            rw [upd_ne (hpp ps e)] at ho
            exact ⟨o, ho⟩
      refine (End.pure w2 kf) Dd ws hHD ⟨hz', f1.b, fun j xs e hp => ?_⟩ ra
      obtain ⟨_, _, _, h4, _⟩ := k'.ownH e hp
      rw [upd_same] at h4
      cases h4
theorem FG.blk {pa : Addr} (h : FG X tg tr ix a) : PG X tg (gBlk X.K pa ix tr a) := ⟨fun pins s σ H v u Q I rv ⟨B1, w⟩ => (h.pg pa B1).run pins s σ H v u Q I rv w⟩
theorem FTs.blk {pa : Addr} {t : B Bool} (h : FTs X ifs t) : PTs X ifs (cBlk X.K X.mg pa t) := ⟨fun pins s σ H Q I ⟨B1, w⟩ => (h.pt pa B1 WNo takes0).run pins s σ H Q I w⟩
theorem FE.blk {pa : Addr} (h : FE X elt g) : PE X elt (eBlk X.K X.mg pa g) := ⟨fun pins s σ H Q I ⟨B1, w⟩ => (h.pe pa B1 WNo takes0).run pins s σ H Q I w⟩
abbrev Blk (X : Cx) (scope : Scope) (P : Cx → Prop) : Prop := ∀ (s : Shared) (H : Hp) (C : Addr) (cl : List (Str × Addr)) (fp : List Addr), P (X.blk s H scope (compEnvC scope cl C X.env) fp)
/-- [elt for tg in iter if ..] -/
theorem fo_lc (hc : X.calm = true) (hN : X.N.Nodup) (hi : FI X tg iter tr fi) (ok : BlkOk X.N X.env.scope scope own) (hix : ∀ j ∈ ix, j ∈ own.map (·.2)) (hg : Blk X scope fun Y => FG Y tg tr ix a) (ht : Blk X scope fun Y => FTs Y ifs c)
    (he : Blk X scope fun Y => FE Y elt g) (hs : ∀ x, foldedSetIterable iter X.env x = pure x := by intro _; rfl) : FO X (.ListComp elt [⟨tg, iter, ifs, 0⟩] scope pos) (eLc fi (own.map (·.2)) a c g) :=
  ⟨fun pa B0 W tk => ⟨fun pins s σ H Q I w => (pe_lc hc hN (hi.pi pa B0 W tk) ok (fun s H C cl fp => (hg s H C cl fp).blk) (fun s H C cl fp => (ht s H C cl fp).blk) (fun s H C cl fp => (he s H C cl fp).blk) hs).run pins s σ H Q I (lc_read hix σ H Q w)⟩⟩
variable {spos py : Pos}
/-- y = [..] -/
theorem fs_setLc (i : Nat) {y : Str} (hc : X.calm = true) (hN : X.N.Nodup) (hi : FI X tg iter tr fi) (ok : BlkOk X.N X.env.scope scope own) (hix : ∀ j ∈ ix, j ∈ own.map (·.2)) (hg : Blk X scope fun Y => FG Y tg tr ix a) (ht : Blk X scope fun Y => FTs Y ifs c)
    (he : Blk X scope fun Y => FE Y elt g) (hy : X.N[i]? = some y := by rfl) (hyl : X.env.scope.names.lookup y = some .local := by rfl) (hsw : swapsWith (.ListComp elt [⟨tg, iter, ifs, 0⟩] scope pos) (some (.Name y py)) spos.line X.env = pure true := by exact sw_true rfl rfl rfl (by decide +kernel))
    (hs : ∀ x, foldedSetIterable iter X.env x = pure x := by intro _; rfl) : FS X (.Assign [.Name y py] (.ListComp elt [⟨tg, iter, ifs, 0⟩] scope pos) spos) (sSet i (eL (eLc fi (own.map (·.2)) a c g))) := by
  refine ⟨fun pa B0 W tk => ⟨fun pins s σ H En I ⟨Z, st, k, w⟩ => (ps_setLc (g := gBlk X.K pa ix tr a) (tt := cBlk X.K X.mg pa c) (te := eBlk X.K X.mg pa g) hc hN hy hyl hsw (hi.pi pa B0 W tk) ok (fun s H C cl fp => (hg s H C cl fp).blk) (fun s H C cl fp => (ht s H C cl fp).blk) (fun s H C cl fp => (he s H C cl fp).blk) hs).run pins s σ H En I ?_⟩⟩
  refine lc_read hix σ H _ ⟨Z, st, k, (End.bind (EndS.ofE w)).imp fun ds s1 Z1 H1 k1 _ w1 p vs hp fr ra => ?_⟩
  obtain ⟨k2, z⟩ := k1.freezeAt hp fr
  have w2 := w1 H1 _ k2 z
  exact EndS.nx w2 (k2.setV i (.lst upd_same (ra.mono z.zz)))
theorem fs_setLcO (i : Nat) {y : Str} (hc : X.calm = true) (hN : X.N.Nodup) (hi : FI X tg iter tr fi) (ok : BlkOk X.N X.env.scope scope own) (hix : ∀ j ∈ ix, j ∈ own.map (·.2)) (hg : Blk X scope fun Y => FG Y tg tr ix a) (ht : Blk X scope fun Y => FTs Y ifs c)
    (he : Blk X scope fun Y => FE Y elt g) (hy : X.N[i]? = some y := by rfl) (hyl : X.env.scope.names.lookup y = some .local := by rfl) (hsw : swapsWith (.ListComp elt [⟨tg, iter, ifs, 0⟩] scope pos) (some (.Name y py)) spos.line X.env = pure true := by exact sw_true rfl rfl rfl (by decide +kernel))
    (hs : ∀ x, foldedSetIterable iter X.env x = pure x := by intro _; rfl) : FS X (.Assign [.Name y py] (.ListComp elt [⟨tg, iter, ifs, 0⟩] scope pos) spos) (sSetO i (eLc fi (own.map (·.2)) a c g)) := by
  refine ⟨fun pa B0 W tk => ⟨fun pins s σ H En I ⟨Z, st, k, w⟩ => (ps_setLc (g := gBlk X.K pa ix tr a) (tt := cBlk X.K X.mg pa c) (te := eBlk X.K X.mg pa g) hc hN hy hyl hsw (hi.pi pa B0 W tk) ok (fun s H C cl fp => (hg s H C cl fp).blk) (fun s H C cl fp => (ht s H C cl fp).blk) (fun s H C cl fp => (he s H C cl fp).blk) hs).run pins s σ H En I ?_⟩⟩
  exact lc_read hix σ H _ ⟨Z, st, k, (EndS.ofE w).imp fun ds s1 Z1 H1 k1 _ w1 p vs hp fr ra => w1.nx (k1.setO i hp fr ra)⟩
end
end FL
set_option maxHeartbeats 1000000
/-! FL7: defs and their calls. -/
namespace FL
open PySem PySem.Spec PyProof.Rows L2

/-- a def's promise where no repr runs around the call -/
structure FnG (P : Program) (w : World) (K : PySem.W.Frag) (mg : Str → Option Value) (base : Heap) (k : Nat) (f : Addr) (fd : FuncData) (ps : List Str) (sp : Sp) : Prop where
  len : ∀ vs H Q E, sp vs H Q E → vs.length = ps.length
  go : ∀ (A : Around), Rm k A → ∀ (fr : List Env) (s : Shared) (H : Hp), Env0 P w K mg base A fr s H → ∀ (args : Args) (us : List Value), BindsTo s fd args (ps.zip us) → ∀ vs : List V, Vals vs us → ∀ (Q : VK) (E : XK), sp vs H Q E →
    codeAny (model P w) A (.call (.ref f) args) (CR (L2.CX P w) fr P w H s Q E) s
theorem Rm.mono {j k : Nat} {A : Around} (r : Rm k A) (h : j ≤ k) : Rm j A := ⟨r.room.mono h, r.g⟩
section
variable {P : Program} {w : World} {K : PySem.W.Frag} {mg : Str → Option Value} {base : Heap}
theorem FnG.mono {j k : Nat} {f : Addr} {fd : FuncData} {ps : List Str} {sp : Sp} (F : FnG P w K mg base j f fd ps sp) (h : j ≤ k) : FnG P w K mg base k f fd ps sp :=
  ⟨F.len, fun A r => F.go A (r.mono h)⟩
/-- a def by its body -/
theorem def_ok {x qual : Str} {st : Stmt} {f : Addr} {fd : FuncData} {N ps : List Str} {k : Nat} {sp : Sp} (F : L2.Fun K x qual st f fd) (S : FnScope N ps (defScope st)) (hlen : ∀ vs H Q E, sp vs H Q E → vs.length = ps.length)
    (hb : ∀ (cd : Value) (A : Around) (fr : List Env) (s : Shared) (H : Hp) (vs : List V) (Q : VK) (E : XK), Rm k (A.deeper (envOfC qual (defScope st) s.heap.objs.size f cd)) → sp vs H Q E →
      ∃ t, PSs (cxOf (L2.CX P w) P w K mg base N qual (defScope st) f cd A fr s H E) (defBody st) t ∧ t { nx := fun _ H' => Q .non H', rt := Q } (start N vs) H) : FnG P w K mg base (k + 1) f fd ps sp := by
  obtain ⟨oc, od, kV, doc, pm, an, cd, ct, osl, e, look, hcd⟩ := F.ex
  subst e
  refine ⟨hlen, fun A r fr s H e0 args us bnd vs rv Q E q => ?_⟩
  have inH := e0.mod.kin.keeps fun b o h => (e0.bs b o h).1
  have lim := e0.mod.nolimit.keeps fun b o h => (e0.bs b o h).1
  refine codeAny_call_function r.room.depth (inH _ _ look) rfl S.co S.gen rfl (PySem.W.codeRec_of inH hcd) (bnd _ _ _ _ (wpAny_newFunctionEnv_cells S.kind (fun y hy => ?_) fun env he s1 hin => ?_))
  · have hk := S.par y.1 (List.of_mem_zip (show (y.1, y.2) ∈ ps.zip us from hy)).1
    rcases hk with h | h
    · exact .inl h
    · exact .inr ⟨h, PySem.W.cellsFrom_some _ _ _ (.inl h)⟩
  · subst he
    refine ⟨lim.keeps hin.toInCall.keep, codeAny_func ?_⟩
    have r' : Rm k (A.deeper (envOfC qual (defScope st) s.heap.objs.size f cd)) := ⟨r.room.deeper _, r.g⟩
    obtain ⟨t, ht, hq⟩ := hb cd A fr s H vs Q E r' q
    have I := inv_start (CX := L2.CX P w) (E := E) S r.room.hd e0 (hlen _ _ _ _ q) rv hin
    refine wpAny_mono (ht.run [] s1 (start N vs) H _ I hq) (fun fl s' h => ?_) fun _ _ h => h
    cases fl with
    | ret u =>
      obtain ⟨v, σ', H', J, ru, q'⟩ := h
      exact ⟨v, H', J.os, J.bare, J.base, J.hok, ru, q'⟩
    | next =>
      obtain ⟨σ', H', J, q'⟩ := h
      exact ⟨V.non, H', J.os, J.bare, J.base, J.hok, rfl, q'⟩
    | brk => exact h.elim fun _ h => h.elim fun _ h => h.2.elim
    | cont => exact h.elim fun _ h => h.elim fun _ h => h.2.elim
end

/-! ### what a def does on data -/
/-- the heap behind a call -/
structure FGrow (pa : Addr) (p' : Option (List Int)) (Z H Z' H' : Hp) : Prop where
  keep : ∀ b o, (b ≠ pa ∨ p' = none) → H b = some o → H' b = some o
  zz : Same Z Z'
  zh : Same Z' H'
  new : ∀ b o, H b = some o → Z' b = Z b
  pool : ∀ ps, p' = some ps → H' pa = some (.lst (ps.map V.int))
def spF (K : PySem.W.Frag) (mg : Str → Option Value) (F : Fn) : Sp := fun vs H Q E => ∃ pa Z ds pool, Same Z H ∧ RepA K pa Z vs ds ∧ (∀ ps, pool = some ps → H pa = some (.lst (ps.map V.int)) ∧ Z pa = none) ∧ match F ds pool with
  | .ok d p' => ∀ v Z' H', FGrow pa p' Z H Z' H' → Rep K pa Z' v d → Q v H'
  | .ex e p' => ∀ cls dx Z' H', FGrow pa p' Z H Z' H' → ExnRep K mg pa Z' H' cls dx e → E cls dx H'
  | .bad => False
/-- a body, run -/
def fnB (np N : Nat) (g : B Fl) : Fn := fun ds pool => if ds.length = np then match g ⟨ds.map Sl.v ++ List.replicate (N - np) Sl.no, pool⟩ with
    | .ok (.rt d) s => .ok d s.pool
    | .ok .nx s => .ok .none s.pool
    | .ok _ _ => .bad
    | .ex e s => .ex e s.pool
    | .bad => .bad
  else .bad
/-- a def of the text that is known to do F -/
structure Known (P : Program) (w : World) (K : PySem.W.Frag) (mg : Str → Option Value) (base : Heap) (x qual : Str) (st : Stmt) (k : Nat) (ps : List Str) (F : Fn) : Prop where
  ex : ∃ f fd, FnG P w K mg base k f fd ps (spF K mg F) ∧ mg x = some (.ref f) ∧ L2.Fun K x qual st f fd
section
variable {P : Program} {wo : World} {K : PySem.W.Frag} {mg : Str → Option Value} {base : Heap}
theorem start_ok {pa : Addr} {Z H : Hp} {vs : List V} {ds : List D} {pool : Option (List Int)} {N : List Str} (z : Same Z H) (r : RepA K pa Z vs ds) (hp : ∀ ps, pool = some ps → H pa = some (.lst (ps.map V.int)) ∧ Z pa = none) :
    Ok K pa H Z H (L2.start N vs) ⟨ds.map Sl.v ++ List.replicate (N.length - ds.length) Sl.no, pool⟩ := by
  have noO : ∀ (i : Nat) (xs : List D), (ds.map Sl.v ++ List.replicate (N.length - ds.length) Sl.no)[i]? ≠ some (.l xs) := fun i xs e => by
    rcases List.mem_append.mp (List.mem_of_getElem? e) with h | h
    · obtain ⟨d, _, h2⟩ := List.mem_map.mp h
      cases h2
    · have := List.eq_of_mem_replicate h
      cases this
  refine ⟨?_, z, fun _ _ _ h => h, fun i d e => ?_, fun i xs e => absurd e (noO i xs), fun i j xs ys p _ e => absurd e (noO i xs), fun ps e => ⟨(hp ps e).1, (hp ps e).2, _, (hp ps e).1⟩⟩
  · show (L2.start N vs).length = (ds.map Sl.v ++ List.replicate (N.length - ds.length) Sl.no).length
    unfold L2.start
    rw [List.length_append, List.length_append, List.length_map, List.length_map, List.length_replicate, List.length_replicate, r.length]
  · have e : (ds.map Sl.v ++ List.replicate (N.length - ds.length) Sl.no)[i]? = some (.v d) := e
    by_cases hi : i < ds.length
    · rw [List.getElem?_append_left (by simpa using hi), List.getElem?_map] at e
      obtain ⟨d', h1, h2⟩ := Option.map_eq_some_iff.mp e
      cases h2
      obtain ⟨v, h3, h4⟩ := r.get h1
      refine ⟨v, ?_, h4⟩
      unfold L2.start
      rw [List.getElem?_append_left (by rw [List.length_map, r.length]; exact hi), List.getElem?_map, h3]
      rfl
    · rw [List.getElem?_append_right (by simpa using Nat.le_of_not_lt hi)] at e
      have := List.eq_of_mem_replicate (List.mem_of_getElem? e)
      cases this
theorem spF_len {np N : Nat} {g : B Fl} {vs : List V} {H : Hp} {Q : VK} {E : XK} (h : spF K mg (fnB np N g) vs H Q E) : vs.length = np := by
  obtain ⟨pa, Z, ds, pool, z, r, hp, q⟩ := h
  rw [r.length]
  by_cases hl : ds.length = np
  · exact hl
  · have e : fnB np N g ds pool = .bad := if_neg hl
    rw [e] at q
    exact False.elim q
theorem known_def {x qual : Str} {st : Stmt} {f : Addr} {fd : FuncData} {N ps : List Str} {k : Nat} {g : B Fl} (F : L2.Fun K x qual st f fd) (hm : mg x = some (.ref f)) (Sc : FnScope N ps (defScope st))
    (hb : ∀ (X : Cx), X.prog = P → X.w = wo → X.K = K → X.mg = mg → X.base = base → X.N = N → X.env.scope = defScope st → X.fn = (fun _ => true) → XG X k → FSs X (defBody st) g) : Known P wo K mg base x qual st (k + 1) ps (fnB ps.length N.length g) := by
  refine ⟨f, fd, def_ok F Sc (fun vs H Q E h => spF_len h) fun cd A fr s H vs Q E r h => ?_, hm, F⟩
  have hl := spF_len h
  obtain ⟨pa, Z, ds, pool, z, h2, hp, q⟩ := h
  have hd : ds.length = ps.length := by rw [← h2.length]; exact hl
  have xg : XG (cxOf (L2.CX P wo) P wo K mg base N qual (defScope st) f cd A fr s H E) k := ⟨rfl, passes_of (E₁ := fun e' s'' => L2.CX P wo fr H s E e' s'') (K := fun e s'' => L2.CX P wo fr H s E e s'') rfl, Sc.nd, r⟩
  have fs := hb _ rfl rfl rfl rfl rfl rfl rfl rfl xg
  have k0 := start_ok (N := N) z h2 hp
  refine ⟨_, fs.ps pa H (fun cls d _ H => E cls d H) (takes_of (E₁ := fun e' s'' => L2.CX P wo fr H s E e' s'') rfl rfl rfl rfl), Z, _, k0, ?_⟩
  unfold fnB at q
  rw [if_pos hd, ← hd] at q
  have grow : ∀ {σ' : VSt} {H' Z' : Hp} {s' : S}, Ok K pa H Z' H' σ' s' → ZExt H Z Z' → FGrow pa s'.pool Z H Z' H' := fun {σ' H' Z' s'} k z => ⟨k.base, z.zz, k.sub, z.old, fun ps e => (k.pool ps e).1⟩
  cases e : g ⟨ds.map Sl.v ++ List.replicate (N.length - ds.length) Sl.no, pool⟩ with
  | ok fl s' =>
    rw [e] at q
    cases fl with
    | nx => exact fun σ' H' Z' k z => q _ _ _ (grow k z) .non
    | rt d => exact fun v σ' H' Z' k z r => q _ _ _ (grow k z) r
    | bk => exact False.elim q
    | ct => exact False.elim q
  | ex x s' =>
    rw [e] at q
    exact fun cls dx σ' H' Z' k z r => q _ _ _ _ (grow k z) r
  | bad => rw [e] at q; exact q
end
theorem Ok.callP {K : PySem.W.Frag} {pa : Addr} {B0 Z H Z' H' : Hp} {σ : VSt} {s : S} {ps ps' : List Int} (k : Ok K pa B0 Z H σ s) (e : s.pool = some ps) (g : FGrow pa (some ps') Z H Z' H') : Ok K pa B0 Z' H' σ { s with pool := some ps' } ∧ ZExt B0 Z Z' := by
  obtain ⟨p1, p2, o, p3⟩ := k.pool ps e
  refine ⟨⟨k.len, g.zh, fun b x c h => ?_, fun i d h => ?_, fun i xs h => ?_, k.apart, fun qs h => ?_⟩, g.zz, fun b x h => ?_⟩
  · rcases c with c | c
    · exact g.keep b x (.inl c) (k.base b x (.inl c) h)
    · cases c
  · obtain ⟨v, h1, h2⟩ := k.val i d h
    exact ⟨v, h1, h2.mono g.zz⟩
  · obtain ⟨p, vs, h1, h2, h3, h4, h5⟩ := k.own i xs h
    have hp : p ≠ pa := fun z => by rw [z, p3] at h4; cases h4
    exact ⟨p, vs, h1, g.keep _ _ (.inl hp) h2, (g.new _ _ h2).trans h3, h4, h5.mono g.zz⟩
  · cases h
    exact ⟨g.pool _ rfl, (g.new _ _ p1).trans p2, o, p3⟩
  · by_cases hb : b = pa
    · subst hb
      exact g.new b _ p1
    · exact g.new b x (k.base b x (.inl hb) h)
theorem FGrow.grow {pa : Addr} {Z H Z' H' : Hp} (g : FGrow pa none Z H Z' H') : Grow Z H Z' H' := ⟨fun b o h => g.keep b o (.inr rfl) h, g.zz, g.zh, g.new⟩
/-- a call of a def that has no pool; of one that has -/
def eCall (F : Fn) (f : B (List D)) : B D := fun s => (f s).bind fun ds s1 => match F ds none with
  | .ok d none => .ok d s1
  | .ex e none => .ex e s1
  | _ => .bad
def eCallP (F : Fn) (f : B (List D)) : B D := fun s => (f s).bind fun ds s1 => match s1.pool with
  | none => .bad
  | some ps => match F ds (some ps) with
    | .ok d (some qs) => .ok d { s1 with pool := some qs }
    | .ex e (some qs) => .ex e { s1 with pool := some qs }
    | _ => .bad
section
variable {X : Cx} {W : WX} {pa : Addr} {B0 : Hp} {σ : VSt} {F : Fn} {Q : VK} {vs : List V} {ds : List D} {Z H : Hp} {s : S}
theorem call_aux (k : Ok X.K pa B0 Z H σ s) (r : RepA X.K pa Z vs ds) 
    (w : End X.K X.mg pa B0 W σ Z (match F ds none with
      | .ok d none => .ok d s
      | .ex e none => .ex e s
      | _ => .bad : R S D) fun d _ Z' H' => ∀ v, Rep X.K pa Z' v d → Q v H') : spF X.K X.mg F vs H Q (WE W σ) := by
  refine ⟨pa, Z, ds, none, k.sub, r, fun ps e => (by cases e), ?_⟩
  cases e : F ds none with
  | ok d p' =>
    rw [e] at w
    cases p' with
    | none => exact fun v Z' H' g rv => w H' Z' (k.grow g.grow) (k.ext g.grow) v rv
    | some _ => exact False.elim w
  | ex x p' =>
    rw [e] at w
    cases p' with
    | none => exact fun cls dx Z' H' g rv => w cls dx H' Z' (k.grow g.grow) (k.ext g.grow) rv
    | some _ => exact False.elim w
  | bad => rw [e] at w; exact w
theorem callP_aux (k : Ok X.K pa B0 Z H σ s) (r : RepA X.K pa Z vs ds) 
    (w : End X.K X.mg pa B0 W σ Z (match s.pool with
      | none => .bad
      | some ps => match F ds (some ps) with
        | .ok d (some qs) => .ok d { s with pool := some qs }
        | .ex e (some qs) => .ex e { s with pool := some qs }
        | _ => .bad : R S D) fun d _ Z' H' => ∀ v, Rep X.K pa Z' v d → Q v H') : spF X.K X.mg F vs H Q (WE W σ) := by
  cases ep : s.pool with
  | none => rw [ep] at w; exact False.elim w
  | some ps =>
    rw [ep] at w
    have w : End X.K X.mg pa B0 W σ Z (match F ds (some ps) with
        | .ok d (some qs) => .ok d { s with pool := some qs }
        | .ex e (some qs) => .ex e { s with pool := some qs }
        | _ => .bad : R S D) fun d _ Z' H' => ∀ v, Rep X.K pa Z' v d → Q v H' := w
    refine ⟨pa, Z, ds, some ps, k.sub, r, fun qs e => ?_, ?_⟩
    · cases e
      exact ⟨(k.pool ps ep).1, (k.pool ps ep).2.1⟩
    · cases e : F ds (some ps) with
      | ok d p' =>
        rw [e] at w
        cases p' with
        | some qs =>
          intro v Z' H' g rv
          obtain ⟨k', z'⟩ := k.callP ep g
          exact w H' Z' k' z' v rv
        | none => exact False.elim w
      | ex x p' =>
        rw [e] at w
        cases p' with
        | some qs =>
          intro cls dx Z' H' g rv
          obtain ⟨k', z'⟩ := k.callP ep g
          exact w cls dx H' Z' k' z' rv
        | none => exact False.elim w
      | bad => rw [e] at w; exact w
/-- the callee runs -/
theorem run_g {pins : List (Addr × Obj)} {s : Shared} {j k : Nat} {f : Addr} {fd : FuncData} {ps : List Str} {sp : Sp} {us : List Value} {Q : VK} {kw : List (Str × Value)} {bs : List Value} {vb : List V} (G : FnG X.prog X.w X.K X.mg X.base j f fd ps sp) (hr : Rm k X.A) (hj : j ≤ k) (tk : Takes X W)
    (hb : BindsTo s fd ⟨us, kw⟩ (ps.zip bs)) (I : Inv X pins σ H s) (r : Vals vb bs) (h : sp vb H Q (WE W σ)) : wpAny (model X.prog X.w) X.A (call (.ref f) us kw) (EP X pins σ Q) X.xe s := by
  refine wpAny_call (codeAny_mono (G.go X.A (hr.mono hj) X.stack s H I.env0 ⟨us, kw⟩ bs hb vb r Q (WE W σ) h) fun res s' q => ?_)
  cases res with
  | error e => exact passAt tk σ pins H s e s' I q
  | ok fl => cases fl with
    | ret u => exact I.after q
    | _ => exact q.elim
end
/-- how the positional values bind -/
def BindP (K : PySem.W.Frag) (x qual : Str) (st : Stmt) (ps : List Str) : Prop := ∀ (f : Addr) (fd : FuncData), L2.Fun K x qual st f fd → Binds K fd ps []
theorem bindP {K : PySem.W.Frag} {x qual : Str} {st : Stmt} {ps : List Str} (h : ∀ (kV doc pm : Value) (an : Option Addr) (cdv ct : Value) (us : List Value), us.length = ps.length → bindArgs (PySem.W.fnOf x qual (defArgs st) (defBody st) (defScope st) .none kV doc pm an cdv ct) ⟨us, []⟩ = pure (ps.zip us)) : BindP K x qual st ps :=
  fun _ _ F => F.binds h
section
variable {X : Cx} {j k : Nat} {x qual : Str} {st : Stmt} {ps : List Str} {F : Fn} {fr : B (List D)} {e : Expr} {es : List Expr} {p pos : Pos}
theorem call_gen {ex : B D} (hex : ∀ s pa B0 W σ Z Q, End X.K X.mg pa B0 W σ Z (ex s) (fun d _ Z' H' => ∀ v, Rep X.K pa Z' v d → Q v H') → End X.K X.mg pa B0 W σ Z (fr s) fun ds s1 Z1 H1 => ∀ vs, RepA X.K pa Z1 vs ds → Ok X.K pa B0 Z1 H1 σ s1 → spF X.K X.mg F vs H1 Q (WE W σ))
    (kn : Known X.prog X.w X.K X.mg X.base x qual st j ps F) (hr : Rm k X.A) (hj : j ≤ k) (gl : Gl X x) (hb : BindP X.K x qual st ps) (ha : FA X (e :: es) fr) (hdb : (x == ("__debug__" : Str)) = false)
    (he : starEach (e :: es) X.env = (false, eval e X.env) :: starEach es X.env) (hpl : (backTo pos (starEach es X.env)).any (·.1) = false) : FE X (.Call (.Name x p) (e :: es) [] pos) ex := by
  obtain ⟨f, fd, G, hm, Fu⟩ := kn.ex
  refine ⟨fun pa B0 W tk => ⟨fun pins s σ H Q I ⟨Z, st, k, w⟩ => ?_⟩⟩
  refine wpAny_Call_Name_kw (ld_glob I gl hm ?_ hdb)
  refine PySem.W.callWith_K (h₀ := X.base) I.ok.mod.kin Fu.kp (thn ((ha.pa pa B0 W tk).run pos pins s σ H (fun vs H1 => spF X.K X.mg F vs H1 Q (WE W σ)) I ⟨Z, st, k, (hex st pa B0 W σ Z Q w).imp fun ds s1 Z1 H1 k1 _ q vs r => q vs r k1⟩) fun us s1 ⟨vs, H1, I1, r, q⟩ => ⟨I1.kIn, ?_⟩) he hpl
  have hl : (us ++ []).length = ps.length := by
    rw [List.append_nil, ← r.length]
    exact G.len vs H1 Q (WE W σ) q
  have b := hb f fd Fu s1 us I1.kIn hl
  rw [List.append_nil] at b
  exact run_g G hr hj tk b I1 r q
theorem fe_call (kn : Known X.prog X.w X.K X.mg X.base x qual st j ps F) (hr : Rm k X.A) (hj : j ≤ k) (gl : Gl X x) (hb : BindP X.K x qual st ps) (ha : FA X (e :: es) fr) (hdb : (x == ("__debug__" : Str)) = false := by decide)
    (he : starEach (e :: es) X.env = (false, eval e X.env) :: starEach es X.env := by rfl) (hpl : (backTo pos (starEach es X.env)).any (·.1) = false := by rfl) : FE X (.Call (.Name x p) (e :: es) [] pos) (eCall F fr) :=
  call_gen (fun s pa B0 W σ Z Q w => (End.bind (show End X.K X.mg pa B0 W σ Z ((fr s).bind fun ds s1 => match F ds none with
    | .ok d none => .ok d s1
    | .ex e none => .ex e s1
    | _ => .bad) _ from w)).imp fun ds s1 Z1 H1 k1 _ q vs r k => call_aux k r q) kn hr hj gl hb ha hdb he hpl
theorem fe_callP (kn : Known X.prog X.w X.K X.mg X.base x qual st j ps F) (hr : Rm k X.A) (hj : j ≤ k) (gl : Gl X x) (hb : BindP X.K x qual st ps) (ha : FA X (e :: es) fr) (hdb : (x == ("__debug__" : Str)) = false := by decide)
    (he : starEach (e :: es) X.env = (false, eval e X.env) :: starEach es X.env := by rfl) (hpl : (backTo pos (starEach es X.env)).any (·.1) = false := by rfl) : FE X (.Call (.Name x p) (e :: es) [] pos) (eCallP F fr) :=
  call_gen (fun s pa B0 W σ Z Q w => (End.bind (show End X.K X.mg pa B0 W σ Z ((fr s).bind fun ds s1 => match s1.pool with
    | none => .bad
    | some ps => match F ds (some ps) with
      | .ok d (some qs) => .ok d { s1 with pool := some qs }
      | .ex e (some qs) => .ex e { s1 with pool := some qs }
      | _ => .bad) _ from w)).imp fun ds s1 Z1 H1 k1 _ q vs r k => callP_aux k r q) kn hr hj gl hb ha hdb he hpl
end
end FL
set_option maxHeartbeats 1000000
/-! FL8: methods of lists and tuples, stores. -/
namespace FL
open PySem PySem.Spec PyProof.Rows L2

/-! ### o.m(..) of a list or a tuple -/
def tyT (K : PySem.W.Frag) (x : V) (H : Hp) : Prop := ∃ a xs, x = .ref a ∧ TupZ K H a xs
theorem tyT_is {X : Cx} {pins : List (Addr × Obj)} {σ : VSt} {H : Hp} {s : Shared} {x : V} {v : Value} (I : Inv X pins σ H s) (r : RelV x v) (ty : tyT X.K x H) :
    s.TypeIs v "tuple" ∧ ∀ a, v = .ref a → ∃ ob, s.heap.get? a = some ob ∧ ob.dict = none := by
  obtain ⟨a, xs, rfl, h⟩ := ty
  cases r
  rcases h with ⟨o, h, hd⟩ | ⟨o, its, n, h, hc, hd, _⟩
  · obtain ⟨e, q⟩ := I.hok a _ h
    obtain ⟨_, its, _, o', e', hc, _⟩ := q
    rw [e] at e'
    cases e'
    exact ⟨⟨o, e, hc⟩, fun b eb => by cases eb; exact ⟨o, e, hd⟩⟩
  · have e := I.kIn a o h
    exact ⟨⟨o, e, hc⟩, fun b eb => by cases eb; exact ⟨o, e, hd⟩⟩
section
variable {X : Cx} {o e : Expr} {es : List Expr} {to : TE} {t : TA} {name : Str} {apos cpos : Pos} {id1 id2 : String} {r1 r2 : V → List V → Hp → VK → Prop}
def tBM2 (K : PySem.W.Frag) (r1 r2 : V → List V → Hp → VK → Prop) (to : TE) (t : TA) : TE := fun σ H Q => to σ H fun x H1 => (tyV K "list" x H1 ∧ t σ H1 fun xs H2 => r1 x xs H2 Q) ∨ (tyT K x H1 ∧ t σ H1 fun xs H2 => r2 x xs H2 Q)
theorem pe_bm2 (s1 : Slot "list" name id1) (t1 : typeOf (.builtin id1) = pure (.type "method_descriptor")) (m1 : MtR X id1 r1) (s2 : Slot "tuple" name id2) (t2 : typeOf (.builtin id2) = pure (.type "method_descriptor")) (m2 : MtR X id2 r2)
    (ho : PE X o to) (ha : PA X (e :: es) t) (hbase : attributeBase o name X.env (eval o X.env) = eval o X.env := by rfl)
    (hfew : ((backTo cpos (starEach (e :: es) X.env)).all (fun x => !x.1) && (backToKw cpos (keywordEach [] X.env)).all (fun x => x.1.isSome)
      && decide ((e :: es).length + ([] : List Keyword).length + (if ([] : List Keyword).isEmpty then 0 else 1) < 30)) = true := by rfl)
    (hline : (apos.endLine == cpos.line) = true := by rfl) (hs : starEach (e :: es) X.env = (false, eval e X.env) :: starEach es X.env := by rfl) (hplain : (backTo cpos (starEach es X.env)).any (·.1) = false := by rfl) :
    PE X (.Call (.Attribute o name apos) (e :: es) [] cpos) (tBM2 X.K r1 r2 to t) := by
  refine ⟨fun pins s σ H Q I h => ?_⟩
  refine wpAny_Call_method_late hbase hfew hline rfl (thn (ho.run pins s σ H _ I h) fun v s1' ⟨x, H1, I1, rx, q⟩ => ?_)
  have args : ∀ {id : String} {r : V → List V → Hp → VK → Prop}, MtR X id r → (t σ H1 fun xs H2 => r x xs H2 Q) → wpAny (model X.prog X.w) X.A (callWith cpos (.builtin id) [v] (backTo cpos (starEach (e :: es) X.env)) (backToKw cpos (keywordEach [] X.env))) (EP X pins σ Q) X.xe s1' := fun {id r} hm q => by
    have hA := ha.run cpos pins s1' σ H1 _ I1 q
    rw [hs] at hA ⊢
    refine Calls.callWith_builtin (by show (false || (backTo cpos (starEach es X.env)).any (·.1)) = false; rw [hplain] <;> rfl) (Calls.evalArgs_plain ?_)
    exact thn hA fun us s2 ⟨vs, H2, I2, rv, q2⟩ => hm pins s2 σ H2 x vs v us Q I2 rx rv q2
  rcases q with ⟨ty, q⟩ | ⟨ty, q⟩
  · obtain ⟨h1, h2⟩ := tyV_is I1 rx ty
    exact ⟨"list", id1, PySem.F.plainAttrs_list, s1, t1, h1, h2, args m1 q⟩
  · obtain ⟨h1, h2⟩ := tyT_is I1 rx ty
    exact ⟨"tuple", id2, PySem.F.plainAttrs_tuple, s2, t2, h1, h2, args m2 q⟩
/-- t.index(x) -/
def rIndexT (K : PySem.W.Frag) : V → List V → Hp → VK → Prop := fun x xs H Q => ∃ (a : Addr) (y : V) (d : PyData) (ds : List PyData) (j : Nat) (z : PyData), x = V.ref a ∧ xs = [y] ∧ Dp K H (V.ref a) (.tuple ds) ∧ Dp K H y d ∧
  SeqAt.shaped (.tuple ds) = true ∧ SeqAt.shaped d = true ∧ ds[j]? = some z ∧ PyData.eqv z d = true ∧ (∀ (m : Nat) (z' : PyData), m < j → ds[m]? = some z' → PyData.eqv z' d = false) ∧ Q (.int (j : Nat)) H
theorem canA {ds : List D} (h : SeqAt.shaped (.tuple ds) = true) : PyData.canLayAll0 ds = true := SeqAt.canLay_of_shaped h
theorem canL {ds : List D} (h : SeqAt.shaped (.list ds) = true) : PyData.canLayAll0 ds = true := SeqAt.canLay_of_shaped h
theorem mt_indexT (hu : X.A.units + 65 < cLine) : MtR X "tuple.index" (rIndexT X.K) := by
  intro pins s σ H x xs v us Q I rx rxs h
  obtain ⟨a, y, d, ds, j, z, rfl, rfl, hl, hy, sl, sd, hz, hzj, hno, q⟩ := h
  cases rx
  obtain ⟨uy, rfl, ry⟩ := rxs.one
  obtain ⟨bs, rd1⟩ := Dp.reads I d y uy hy ry
  cases hl with
  | tup hs ha =>
    obtain ⟨its, rv, ⟨⟨cls, dd, data, sls⟩, ho, hc, n, hdt⟩, hlen⟩ := I.tuple hs
    simp only at hc hdt
    subst hc hdt
    obtain ⟨as, rd2⟩ := Dp.readsAll I ds _ its ha rv
    have hn : its.length = ds.length := SeqAt.ReadsAll.length ds its as rd2
    have hmap : its.map (SeqAt.readOf s.heap) = ds := SeqAt.readsAll_map ds its as (canA sl) rd2
    have hj : j < its.toArray.size := by
      have := (List.getElem?_eq_some_iff.mp hz).1
      simp only [List.size_toArray]
      omega
    have look : ∀ (m : Nat) (hm : m < its.toArray.size) (z' : PyData), ds[m]? = some z' → SeqAt.readOf s.heap its.toArray[m] = z' := fun m hm z' e => by
      have hm' : m < its.length := by simpa using hm
      rw [← hmap, List.getElem?_map, List.getElem?_eq_getElem hm'] at e
      have e := Option.some.inj e
      simpa using e
    refine call_meets PySem.F.slot_tuple_index ⟨_, ho, rfl⟩ PySem.F.entry_tuple_index (PySem.F.args_tuple_index_2 _ _) (TI.tuple_indexAt a its.toArray n dd sls uy (fun u => PyData.eqv (SeqAt.readOf s.heap u) d) j hj ?_ ?_)
      ⟨ho, SeqAt.items_eqAt (vs := its.toArray) (show ReadsAll s.heap its.toArray.toList ds as from rd2) rd1 (canA sl) (SeqAt.canLay_of_shaped sd) (room_any sd hu), ⟨.int (j : Nat), H, I.tok _, ⟨_, rfl⟩, q⟩⟩
    · show PyData.eqv (SeqAt.readOf s.heap its.toArray[j]) d = true
      rw [look j hj z hz]
      exact hzj
    · intro m hm hmj
      have hmd : m < ds.length := by
        have : m < its.length := by simpa using hm
        omega
      show PyData.eqv (SeqAt.readOf s.heap its.toArray[m]) d = false
      rw [look m hm _ (List.getElem?_eq_getElem hmd)]
      exact hno m _ hmj (List.getElem?_eq_getElem hmd)
/-- xs.count(x), t.count(x) -/
def rCntD (K : PySem.W.Frag) (tup : Bool) : V → List V → Hp → VK → Prop := fun x xs H Q => ∃ (a : Addr) (y : V) (d : PyData) (ds : List PyData), x = V.ref a ∧ xs = [y] ∧ Dp K H (V.ref a) (if tup then .tuple ds else .list ds) ∧ Dp K H y d ∧
  PyData.canLayAll0 ds = true ∧ SeqAt.shaped d = true ∧ Q (.int (ds.countP (fun z => PyData.eqv z d) : Nat)) H
theorem count_map {h : Heap} {its : List Value} {ds : List D} {d : D} (hmap : its.map (SeqAt.readOf h) = ds) : its.countP (fun u => PyData.eqv (SeqAt.readOf h u) d) = ds.countP (fun z => PyData.eqv z d) := by
  rw [← hmap, List.countP_map]
  rfl
theorem mt_countL (hu : X.A.units + 65 < cLine) : MtR X "list.count" (rCntD X.K false) := by
  intro pins s σ H x xs v us Q I rx rxs h
  obtain ⟨a, y, d, ds, rfl, rfl, hl, hy, sl, sd, q⟩ := h
  cases rx
  obtain ⟨uy, rfl, ry⟩ := rxs.one
  obtain ⟨bs, rd1⟩ := Dp.reads I d y uy hy ry
  cases (show Dp X.K H (V.ref a) (.list ds) from hl) with
  | lst hs ha =>
    obtain ⟨its, rv, ⟨⟨cls, dd, data, sls⟩, n, ho, hc, _, hdt⟩, hlen⟩ := I.list hs
    simp only at hc hdt
    subst hc hdt
    obtain ⟨as, rd2⟩ := Dp.readsAll I ds _ its ha rv
    have hmap : its.map (SeqAt.readOf s.heap) = ds := SeqAt.readsAll_map ds its as sl rd2
    exact call_meets PySem.F.slot_list_count ⟨_, ho, rfl⟩ PySem.F.entry_list_count (PySem.F.args_list_count_2 _ _) (SeqAt.list_countAt a its.toArray n dd sls uy (fun u => PyData.eqv (SeqAt.readOf s.heap u) d))
      ⟨ho, SeqAt.items_eqAt (vs := its.toArray) (show ReadsAll s.heap its.toArray.toList ds as from rd2) rd1 sl (SeqAt.canLay_of_shaped sd) (room_any sd hu), ⟨.int _, H, I.tok _, ⟨_, by rw [← count_map (d := d) hmap]⟩, q⟩⟩
theorem mt_countT (hu : X.A.units + 65 < cLine) : MtR X "tuple.count" (rCntD X.K true) := by
  intro pins s σ H x xs v us Q I rx rxs h
  obtain ⟨a, y, d, ds, rfl, rfl, hl, hy, sl, sd, q⟩ := h
  cases rx
  obtain ⟨uy, rfl, ry⟩ := rxs.one
  obtain ⟨bs, rd1⟩ := Dp.reads I d y uy hy ry
  cases (show Dp X.K H (V.ref a) (.tuple ds) from hl) with
  | tup hs ha =>
    obtain ⟨its, rv, ⟨⟨cls, dd, data, sls⟩, ho, hc, n, hdt⟩, hlen⟩ := I.tuple hs
    simp only at hc hdt
    subst hc hdt
    obtain ⟨as, rd2⟩ := Dp.readsAll I ds _ its ha rv
    have hmap : its.map (SeqAt.readOf s.heap) = ds := SeqAt.readsAll_map ds its as sl rd2
    exact call_meets PySem.F.slot_tuple_count ⟨_, ho, rfl⟩ PySem.F.entry_tuple_count (PySem.F.args_tuple_count_2 _ _) (SeqAt.tuple_countAt a its.toArray n dd sls uy (fun u => PyData.eqv (SeqAt.readOf s.heap u) d))
      ⟨ho, SeqAt.items_eqAt (vs := its.toArray) (show ReadsAll s.heap its.toArray.toList ds as from rd2) rd1 sl (SeqAt.canLay_of_shaped sd) (room_any sd hu), ⟨.int _, H, I.tok _, ⟨_, by rw [← count_map (d := d) hmap]⟩, q⟩⟩
end

/-- the first place of an equal one -/
def findD (d : D) : List D → Option Nat
  | [] => none
  | z :: zs => if PyData.eqv z d then some 0 else (findD d zs).map (· + 1)
theorem findD_some {d : D} : ∀ {zs : List D} {j : Nat}, findD d zs = some j → ∃ z, zs[j]? = some z ∧ PyData.eqv z d = true ∧ ∀ (m : Nat) (z' : D), m < j → zs[m]? = some z' → PyData.eqv z' d = false
  | [], _, h => by cases h
  | z :: zs, j, h => by
    unfold findD at h
    split at h
    · rename_i hz
      cases h
      exact ⟨z, rfl, hz, fun m _ hm => absurd hm (Nat.not_lt_zero m)⟩
    · rename_i hz
      obtain ⟨i, h1, h2⟩ := Option.map_eq_some_iff.mp h
      subst h2
      obtain ⟨y, q1, q2, q3⟩ := findD_some h1
      refine ⟨y, by simpa using q1, q2, fun m z' hm e => ?_⟩
      cases m with
      | zero =>
        cases e
        simpa using hz
      | succ m => exact q3 m z' (by omega) (by simpa using e)
def gIndex (d e : D) : Option D := (itemsOf d).bind fun ds => if SeqAt.shaped d = true ∧ SeqAt.shaped e = true then (findD e ds).map fun j => .int (j : Nat) else none
def gCount (d e : D) : Option D := (itemsOf d).bind fun ds => if SeqAt.shaped d = true ∧ SeqAt.shaped e = true then some (.int (ds.countP (fun z => PyData.eqv z e) : Nat)) else none
def sameK : D → D → Bool
  | .list _, .list _ => true
  | .tuple _, .tuple _ => true
  | _, _ => false
/-- x.m(e): x is only looked at -/
def eM1 (g : D → D → Option D) (fa : B Src) (fb : B D) : B D := do
  let x ← fa
  let d0 ← rd x
  let _ ← lift (itemsOf d0)
  let e ← fb
  let d ← rd x
  lift (if sameK d0 d then g d e else none)
section
variable {X : Cx} {o a : Expr} {so : B Src} {fa : B D} {apos cpos : Pos} {k : Nat}
/-- a method of a list or a tuple that only looks -/
theorem fe_m1 {name : Str} {id1 id2 : String} {r1 r2 : V → List V → Hp → VK → Prop} {g : D → D → Option D} (s1 : Slot "list" name id1) (t1 : typeOf (.builtin id1) = pure (.type "method_descriptor")) (m1 : MtR X id1 r1) (s2 : Slot "tuple" name id2) (t2 : typeOf (.builtin id2) = pure (.type "method_descriptor")) (m2 : MtR X id2 r2)
    (h1 : ∀ (pa : Addr) (x y : V) (ds : List D) (e z : D) (Z H : Hp) (Q : VK), Same Z H → RepH X.K pa Z H x (.list ds) → RepH X.K pa Z H y e → g (.list ds) e = some z → (∀ v, Rep X.K pa Z v z → Q v H) → r1 x [y] H Q)
    (h2 : ∀ (pa : Addr) (x y : V) (ds : List D) (e z : D) (Z H : Hp) (Q : VK), Same Z H → RepH X.K pa Z H x (.tuple ds) → RepH X.K pa Z H y e → g (.tuple ds) e = some z → (∀ v, Rep X.K pa Z v z → Q v H) → r2 x [y] H Q)
    (ho : FB X o so) (ha : FE X a fa) (hbase : attributeBase o name X.env (eval o X.env) = eval o X.env)
    (hfew : ((backTo cpos (starEach [a] X.env)).all (fun x => !x.1) && (backToKw cpos (keywordEach [] X.env)).all (fun x => x.1.isSome)
      && decide ([a].length + ([] : List Keyword).length + (if ([] : List Keyword).isEmpty then 0 else 1) < 30)) = true)
    (hline : (apos.endLine == cpos.line) = true) (hs : starEach [a] X.env = (false, eval a X.env) :: starEach [] X.env) (hplain : (backTo cpos (starEach [] X.env)).any (·.1) = false) :
    FE X (.Call (.Attribute o name apos) [a] [] cpos) (eM1 g so fa) := by
  refine ⟨fun pa B0 W tk => ⟨fun pins s σ H Q I ⟨Z, st, k, w⟩ => (pe_bm2 s1 t1 m1 s2 t2 m2 (ho.pe pa B0 W tk) (pa_cons (ha.pe pa B0 W tk) pa_nil hs) hbase hfew hline hs hplain).run pins s σ H Q I ?_⟩⟩
  refine ⟨Z, st, k, (End.bind w).imp fun x s1 Z1 H1 k1 _ w1 v rv => ?_⟩
  obtain ⟨d0, hd0, w2⟩ := End.rd k1 rv w1
  obtain ⟨is, his, w2⟩ := End.lift w2
  have go : ∀ (r : V → List V → Hp → VK → Prop), (∀ (y : V) (d e z : D) (Z H : Hp), Same Z H → RepH X.K pa Z H v d → RepH X.K pa Z H y e → sameK d0 d = true → g d e = some z → (∀ u, Rep X.K pa Z u z → Q u H) → r v [y] H Q) →
      tCons (tE X.K X.mg pa B0 W fa) tNil σ H1 fun xs H2 => r v xs H2 Q := fun r hr => by
    refine ⟨Z1, s1, k1, (End.bind w2).imp fun e s2 Z2 H2 k2 z2 w3 u ru => ?_⟩
    obtain ⟨d, hd, w4⟩ := End.rd k2 (rv.mono z2.zz) w3
    obtain ⟨z, hz, w5⟩ := End.lift1 w4
    split at hz
    · rename_i hk
      exact hr u d e z Z2 H2 k2.sub hd (.of ru) hk hz fun t rt => End.pure w5 k2 t rt
    · cases hz
  cases d0 with
  | list es =>
    obtain ⟨p, vs, hv, hp, _⟩ := hd0.list k1.sub
    refine .inl ⟨by rw [hv]; exact .inl ⟨rfl, vs, .of hp⟩, go r1 fun y d e z Z H zh hd he hk hz q => ?_⟩
    cases d with
    | list ds => exact h1 pa v y ds e z Z H Q zh hd he hz q
    | _ => cases hk
  | tuple es =>
    have ty : tyT X.K v H1 := by
      cases hd0.rep (fun _ q => nomatch q) with
      | tup h ra => exact ⟨_, _, rfl, h.mono k1.sub⟩
    refine .inr ⟨ty, go r2 fun y d e z Z H zh hd he hk hz q => ?_⟩
    cases d with
    | tuple ds => exact h2 pa v y ds e z Z H Q zh hd he hz q
    | _ => cases hk
  | _ => cases his
variable (hu : X.A.units + 65 < cLine)
include hu
theorem fe_index (ho : FB X o so) (ha : FE X a fa) (hbase : attributeBase o "index" X.env (eval o X.env) = eval o X.env := by rfl)
    (hfew : ((backTo cpos (starEach [a] X.env)).all (fun x => !x.1) && (backToKw cpos (keywordEach [] X.env)).all (fun x => x.1.isSome)
      && decide ([a].length + ([] : List Keyword).length + (if ([] : List Keyword).isEmpty then 0 else 1) < 30)) = true := by rfl)
    (hline : (apos.endLine == cpos.line) = true := by rfl) (hs : starEach [a] X.env = (false, eval a X.env) :: starEach [] X.env := by rfl) (hplain : (backTo cpos (starEach [] X.env)).any (·.1) = false := by rfl) :
    FE X (.Call (.Attribute o "index" apos) [a] [] cpos) (eM1 gIndex so fa) := by
  have fin : ∀ {d e z : D}, gIndex d e = some z → ∃ ds j, itemsOf d = some ds ∧ SeqAt.shaped d = true ∧ SeqAt.shaped e = true ∧ findD e ds = some j ∧ z = .int (j : Nat) := fun {d e z} h => by
    unfold gIndex at h
    obtain ⟨ds, h1, h2⟩ := Option.bind_eq_some_iff.mp h
    split at h2
    · rename_i hs
      obtain ⟨j, h3, h4⟩ := Option.map_eq_some_iff.mp h2
      exact ⟨ds, j, h1, hs.1, hs.2, h3, h4.symm⟩
    · cases h2
  refine fe_m1 PySem.F.slot_list_index PySem.F.type_list_index (mt_indexD hu) PySem.F.slot_tuple_index PySem.F.type_tuple_index (mt_indexT hu) (fun pa x y ds e z Z H Q zh hx hy hg q => ?_) (fun pa x y ds e z Z H Q zh hx hy hg q => ?_) ho ha hbase hfew hline hs hplain
  · obtain ⟨es, j, h1, h2, h3, h4, rfl⟩ := fin hg
    cases h1
    obtain ⟨w, q1, q2, q3⟩ := findD_some h4
    obtain ⟨p, vs, rfl, hp, ra⟩ := hx.list zh
    exact ⟨p, y, e, ds, j, w, rfl, rfl, hx.dp (SeqAt.canLay_of_shaped h2) zh, hy.dp (SeqAt.canLay_of_shaped h3) zh, h2, h3, q1, q2, q3, q _ (.int _)⟩
  · obtain ⟨es, j, h1, h2, h3, h4, rfl⟩ := fin hg
    cases h1
    obtain ⟨w, q1, q2, q3⟩ := findD_some h4
    have hdp := hx.dp (SeqAt.canLay_of_shaped h2) zh
    cases hx.rep (fun _ q => nomatch q) with
    | tup hp ra => exact ⟨_, y, e, ds, j, w, rfl, rfl, hdp, hy.dp (SeqAt.canLay_of_shaped h3) zh, h2, h3, q1, q2, q3, q _ (.int _)⟩
theorem fe_count (ho : FB X o so) (ha : FE X a fa) (hbase : attributeBase o "count" X.env (eval o X.env) = eval o X.env := by rfl)
    (hfew : ((backTo cpos (starEach [a] X.env)).all (fun x => !x.1) && (backToKw cpos (keywordEach [] X.env)).all (fun x => x.1.isSome)
      && decide ([a].length + ([] : List Keyword).length + (if ([] : List Keyword).isEmpty then 0 else 1) < 30)) = true := by rfl)
    (hline : (apos.endLine == cpos.line) = true := by rfl) (hs : starEach [a] X.env = (false, eval a X.env) :: starEach [] X.env := by rfl) (hplain : (backTo cpos (starEach [] X.env)).any (·.1) = false := by rfl) :
    FE X (.Call (.Attribute o "count" apos) [a] [] cpos) (eM1 gCount so fa) := by
  have fin : ∀ {d e z : D}, gCount d e = some z → ∃ ds, itemsOf d = some ds ∧ SeqAt.shaped d = true ∧ SeqAt.shaped e = true ∧ z = .int (ds.countP (fun z => PyData.eqv z e) : Nat) := fun {d e z} h => by
    unfold gCount at h
    obtain ⟨ds, h1, h2⟩ := Option.bind_eq_some_iff.mp h
    split at h2
    · rename_i hs
      cases h2
      exact ⟨ds, h1, hs.1, hs.2, rfl⟩
    · cases h2
  refine fe_m1 PySem.F.slot_list_count PySem.F.type_list_count (mt_countL hu) PySem.F.slot_tuple_count PySem.F.type_tuple_count (mt_countT hu) (fun pa x y ds e z Z H Q zh hx hy hg q => ?_) (fun pa x y ds e z Z H Q zh hx hy hg q => ?_) ho ha hbase hfew hline hs hplain
  · obtain ⟨es, h1, h2, h3, rfl⟩ := fin hg
    cases h1
    obtain ⟨p, vs, rfl, hp, ra⟩ := hx.list zh
    exact ⟨p, y, e, ds, rfl, rfl, hx.dp (SeqAt.canLay_of_shaped h2) zh, hy.dp (SeqAt.canLay_of_shaped h3) zh, SeqAt.canLay_of_shaped h2, h3, q _ (.int _)⟩
  · obtain ⟨es, h1, h2, h3, rfl⟩ := fin hg
    cases h1
    have hdp := hx.dp (SeqAt.canLay_of_shaped h2) zh
    cases hx.rep (fun _ q => nomatch q) with
    | tup hp ra => exact ⟨_, y, e, ds, rfl, rfl, hdp, hy.dp (SeqAt.canLay_of_shaped h3) zh, canA h2, h3, q _ (.int _)⟩
end

/-! ### a list of one's own, changed -/
def ownAt (i : Nat) (s : S) : Option (List D) := match s.env[i]? with
  | some (.l xs) => some xs
  | _ => none
theorem ownAt_some {i : Nat} {s : S} {xs : List D} (h : ownAt i s = some xs) : s.env[i]? = some (.l xs) := by
  unfold ownAt at h
  split at h
  · rename_i ys e
    cases h
    exact e
  · cases h
def putAt (i : Nat) (xs : List D) (s : S) : S := { s with env := s.env.set i (.l xs) }
/-- x.append(e) -/
def sApp (i : Nat) (f : B D) : B Fl := fun s => match ownAt i s with
  | none => .bad
  | some _ => (f s).bind fun d s1 => match ownAt i s1 with
    | some xs => if xs.length < sizeLine then .ok .nx (putAt i (xs ++ [d]) s1) else .bad
    | none => .bad
/-- x.extend(e), e a list or a list comprehension -/
def sExt (i : Nat) (f : B D) : B Fl := fun s => match ownAt i s with
  | none => .bad
  | some _ => (f s).bind fun d s1 => match ownAt i s1, d with
    | some xs, .list ds => if xs.length + ds.length ≤ sizeLine then .ok .nx (putAt i (xs ++ ds) s1) else .bad
    | _, _ => .bad
/-- x.pop(e), x.pop() -/
def ePopAt (i : Nat) (f : B D) : B D := fun s => match ownAt i s with
  | none => .bad
  | some _ => (f s).bind fun d s1 => match ownAt i s1, d with
    | some xs, .int j => if -(2 ^ 63) ≤ j ∧ j < 2 ^ 63 then match seqIndex? j xs.length with
      | some m => match xs[m]? with
        | some y => .ok y (putAt i (xs.eraseIdx m) s1)
        | none => .bad
      | none => .bad else .bad
    | _, _ => .bad
def ePop (i : Nat) : B D := fun s => match ownAt i s with
  | some xs => match xs[xs.length - 1]? with
    | some y => .ok y (putAt i xs.dropLast s)
    | none => .bad
  | none => .bad
section
variable {X : Cx} {a : Expr} {fa : B D} {x : Str} {npos apos cpos spos : Pos} {i : Nat}
theorem own_list {K : PySem.W.Frag} {pa : Addr} {B0 Z H : Hp} {σ : VSt} {s : S} {xs : List D} (k : Ok K pa B0 Z H σ s) (e : ownAt i s = some xs) : ∃ p vs, σ[i]? = some (some (.ref p)) ∧ H p = some (.lst vs) ∧ RepA K pa Z vs xs := by
  obtain ⟨p, vs, h1, h2, _, _, h5⟩ := k.own i xs (ownAt_some e)
  exact ⟨p, vs, h1, h2, h5⟩
theorem dropLast_rep {K : PySem.W.Frag} {pa : Addr} {Z : Hp} {vs : List V} {ds : List D} (r : RepA K pa Z vs ds) : RepA K pa Z vs.dropLast ds.dropLast := by
  rw [List.dropLast_eq_take, List.dropLast_eq_take, r.length]
  exact r.take _
theorem fs_append (i : Nat) (ha : FE X a fa) (hN : X.N[i]? = some x := by rfl) (hv : Vis X.env.scope x := by first | exact Or.inl rfl | exact Or.inr (Or.inl rfl) | exact Or.inr (Or.inr rfl)) (hd : (x == ("__debug__" : Str)) = false := by decide) (hcd : (x == ("__classdict__" : Str)) = false := by decide)
    (hbase : attributeBase (.Name x npos) "append" X.env (eval (.Name x npos) X.env) = eval (.Name x npos) X.env := by rfl)
    (hfew : ((backTo cpos (starEach [a] X.env)).all (fun x => !x.1) && (backToKw cpos (keywordEach [] X.env)).all (fun x => x.1.isSome)
      && decide ([a].length + ([] : List Keyword).length + (if ([] : List Keyword).isEmpty then 0 else 1) < 30)) = true := by rfl)
    (hline : (apos.endLine == cpos.line) = true := by rfl) (hs : starEach [a] X.env = (false, eval a X.env) :: starEach [] X.env := by rfl) (hplain : (backTo cpos (starEach [] X.env)).any (·.1) = false := by rfl)
    (hsw : swapsWith (.Call (.Attribute (.Name x npos) "append" apos) [a] [] cpos) none spos.line X.env = pure false := by rfl) : FS X (.Expr (.Call (.Attribute (.Name x npos) "append" apos) [a] [] cpos) spos) (sApp i fa) := by
  refine ⟨fun pa B0 W tk => ⟨fun pins s σ H En I ⟨Z, st, k, w⟩ => (ps_expr (pe_bm PySem.F.plainAttrs_list PySem.F.slot_list_append PySem.F.type_list_append mt_append (pe_var hN hv hd hcd) (pa_cons (ha.pe pa B0 W tk) pa_nil hs) hbase hfew hline hs hplain) hsw).run pins s σ H En I ?_⟩⟩
  unfold sApp at w
  cases e : ownAt i st with
  | none => rw [e] at w; exact False.elim w
  | some xs =>
    rw [e] at w
    obtain ⟨p, vs, hp, hl, ra⟩ := own_list k e
    refine ⟨.ref p, hp, .inl ⟨rfl, vs, .of hl⟩, Z, st, k, (EndS.ofE w).imp fun d s1 Z1 H1 k1 _ w1 u ru => ?_⟩
    cases e1 : ownAt i s1 with
    | none => rw [e1] at w1; exact False.elim w1
    | some ys =>
      rw [e1] at w1
      have w1 : EndS X.K X.mg pa B0 W Z1 (if ys.length < sizeLine then .ok .nx (putAt i (ys ++ [d]) s1) else .bad) En := w1
      split at w1
      · rename_i hz
        obtain ⟨ws, h2, _, _, h5⟩ := k1.ownH (ownAt_some e1) hp
        exact ⟨p, ws, u, rfl, rfl, h2, by rw [h5.length]; exact hz, EndS.nx w1 (k1.put (ownAt_some e1) hp (h5.append (.cons ru .nil)))⟩
      · exact False.elim w1
theorem fs_extend (i : Nat) (ha : FE X a fa) (hN : X.N[i]? = some x := by rfl) (hv : Vis X.env.scope x := by first | exact Or.inl rfl | exact Or.inr (Or.inl rfl) | exact Or.inr (Or.inr rfl)) (hd : (x == ("__debug__" : Str)) = false := by decide) (hcd : (x == ("__classdict__" : Str)) = false := by decide)
    (hbase : attributeBase (.Name x npos) "extend" X.env (eval (.Name x npos) X.env) = eval (.Name x npos) X.env := by rfl)
    (hfew : ((backTo cpos (starEach [a] X.env)).all (fun x => !x.1) && (backToKw cpos (keywordEach [] X.env)).all (fun x => x.1.isSome)
      && decide ([a].length + ([] : List Keyword).length + (if ([] : List Keyword).isEmpty then 0 else 1) < 30)) = true := by rfl)
    (hline : (apos.endLine == cpos.line) = true := by rfl) (hs : starEach [a] X.env = (false, eval a X.env) :: starEach [] X.env := by rfl) (hplain : (backTo cpos (starEach [] X.env)).any (·.1) = false := by rfl)
    (hsw : swapsWith (.Call (.Attribute (.Name x npos) "extend" apos) [a] [] cpos) none spos.line X.env = pure false := by rfl) : FS X (.Expr (.Call (.Attribute (.Name x npos) "extend" apos) [a] [] cpos) spos) (sExt i fa) := by
  refine ⟨fun pa B0 W tk => ⟨fun pins s σ H En I ⟨Z, st, k, w⟩ => (ps_expr (pe_bm PySem.F.plainAttrs_list PySem.F.slot_list_extend PySem.F.type_list_extend mt_extend (pe_var hN hv hd hcd) (pa_cons (ha.pe pa B0 W tk) pa_nil hs) hbase hfew hline hs hplain) hsw).run pins s σ H En I ?_⟩⟩
  unfold sExt at w
  cases e : ownAt i st with
  | none => rw [e] at w; exact False.elim w
  | some xs =>
    rw [e] at w
    obtain ⟨p, vs, hp, hl, ra⟩ := own_list k e
    refine ⟨.ref p, hp, .inl ⟨rfl, vs, .of hl⟩, Z, st, k, (EndS.ofE w).imp fun d s1 Z1 H1 k1 _ w1 u ru => ?_⟩
    cases e1 : ownAt i s1 with
    | none => rw [e1] at w1; exact False.elim w1
    | some ys =>
      rw [e1] at w1
      cases d with
      | list ds =>
        have w1 : EndS X.K X.mg pa B0 W Z1 (if ys.length + ds.length ≤ sizeLine then .ok .nx (putAt i (ys ++ ds) s1) else .bad) En := w1
        split at w1
        · rename_i hz
          obtain ⟨ws, h2, _, _, h5⟩ := k1.ownH (ownAt_some e1) hp
          obtain ⟨b, zs, rfl, hb, rb⟩ := frz_list ru
          exact ⟨p, b, ws, zs, rfl, rfl, h2, k1.sub _ _ hb, by rw [h5.length, rb.length]; exact hz, EndS.nx w1 (k1.put (ownAt_some e1) hp (h5.append rb))⟩
        · exact False.elim w1
      | _ => exact False.elim w1
theorem fe_popAt (i : Nat) (ha : FE X a fa) (hN : X.N[i]? = some x := by rfl) (hv : Vis X.env.scope x := by first | exact Or.inl rfl | exact Or.inr (Or.inl rfl) | exact Or.inr (Or.inr rfl)) (hd : (x == ("__debug__" : Str)) = false := by decide) (hcd : (x == ("__classdict__" : Str)) = false := by decide)
    (hbase : attributeBase (.Name x npos) "pop" X.env (eval (.Name x npos) X.env) = eval (.Name x npos) X.env := by rfl)
    (hfew : ((backTo cpos (starEach [a] X.env)).all (fun x => !x.1) && (backToKw cpos (keywordEach [] X.env)).all (fun x => x.1.isSome)
      && decide ([a].length + ([] : List Keyword).length + (if ([] : List Keyword).isEmpty then 0 else 1) < 30)) = true := by rfl)
    (hline : (apos.endLine == cpos.line) = true := by rfl) (hs : starEach [a] X.env = (false, eval a X.env) :: starEach [] X.env := by rfl) (hplain : (backTo cpos (starEach [] X.env)).any (·.1) = false := by rfl) :
    FE X (.Call (.Attribute (.Name x npos) "pop" apos) [a] [] cpos) (ePopAt i fa) := by
  refine ⟨fun pa B0 W tk => ⟨fun pins s σ H Q I ⟨Z, st, k, w⟩ => (pe_bm PySem.F.plainAttrs_list PySem.F.slot_list_pop PySem.F.type_list_pop mt_popAt (pe_var hN hv hd hcd) (pa_cons (ha.pe pa B0 W tk) pa_nil hs) hbase hfew hline hs hplain).run pins s σ H Q I ?_⟩⟩
  unfold ePopAt at w
  cases e : ownAt i st with
  | none => rw [e] at w; exact False.elim w
  | some xs =>
    rw [e] at w
    obtain ⟨p, vs, hp, hl, ra⟩ := own_list k e
    refine ⟨.ref p, hp, .inl ⟨rfl, vs, .of hl⟩, Z, st, k, (End.bind w).imp fun d s1 Z1 H1 k1 _ w1 u ru => ?_⟩
    cases e1 : ownAt i s1 with
    | none => rw [e1] at w1; exact False.elim w1
    | some ys =>
      rw [e1] at w1
      cases d with
      | int j =>
        cases ru
        have w1 : End X.K X.mg pa B0 W σ Z1 (if -(2 ^ 63) ≤ j ∧ j < 2 ^ 63 then match seqIndex? j ys.length with
          | some m => match ys[m]? with
            | some y => .ok y (putAt i (ys.eraseIdx m) s1)
            | none => .bad
          | none => .bad else .bad : R S D) (fun d _ Z' H' => ∀ v, Rep X.K pa Z' v d → Q v H') := w1
        split at w1
        · rename_i hj
          cases hm : seqIndex? j ys.length with
          | none => rw [hm] at w1; exact False.elim w1
          | some m =>
            rw [hm] at w1
            cases hy : ys[m]? with
            | none => simp only [hy] at w1; exact False.elim w1
            | some y =>
              simp only [hy] at w1
              obtain ⟨ws, h2, _, _, h5⟩ := k1.ownH (ownAt_some e1) hp
              obtain ⟨v, hv', rv⟩ := h5.get hy
              exact ⟨p, ws, j, m, v, rfl, rfl, h2, hj.1, hj.2, by rw [h5.length]; exact hm, hv', End.pure w1 (k1.put (ownAt_some e1) hp (h5.eraseIdx m)) v rv⟩
        · exact False.elim w1
      | _ => exact False.elim w1
theorem fe_pop (i : Nat) (hN : X.N[i]? = some x := by rfl) (hv : Vis X.env.scope x := by first | exact Or.inl rfl | exact Or.inr (Or.inl rfl) | exact Or.inr (Or.inr rfl)) (hd : (x == ("__debug__" : Str)) = false := by decide) (hcd : (x == ("__classdict__" : Str)) = false := by decide)
    (hbase : attributeBase (.Name x npos) "pop" X.env (eval (.Name x npos) X.env) = eval (.Name x npos) X.env := by rfl) (hline : (apos.endLine == cpos.line) = true := by rfl) : FE X (.Call (.Attribute (.Name x npos) "pop" apos) [] [] cpos) (ePop i) := by
  refine ⟨fun pa B0 W tk => ⟨fun pins s σ H Q I ⟨Z, st, k, w⟩ => (pe_bm0 PySem.F.plainAttrs_list PySem.F.slot_list_pop PySem.F.type_list_pop mt_pop (pe_var hN hv hd hcd) hbase hline).run pins s σ H Q I ?_⟩⟩
  unfold ePop at w
  cases e : ownAt i st with
  | none => rw [e] at w; exact False.elim w
  | some xs =>
    rw [e] at w
    obtain ⟨p, vs, hp, hl, ra⟩ := own_list k e
    cases hy : xs[xs.length - 1]? with
    | none => simp only [hy] at w; exact False.elim w
    | some y =>
      simp only [hy] at w
      obtain ⟨v, hv', rv⟩ := ra.get hy
      exact ⟨.ref p, hp, .inl ⟨rfl, vs, .of hl⟩, p, vs, v, rfl, rfl, hl, by rw [ra.length]; exact hv', End.pure w (k.put (ownAt_some e) hp (dropLast_rep ra)) v rv⟩

/-! ### x[i] = e -/
def sStore (i : Nat) (fi fv : B D) : B Fl := fun s => (fv s).bind fun d s1 => match ownAt i s1 with
  | none => .bad
  | some _ => (fi s1).bind fun j s2 => match ownAt i s2, j with
    | some xs, .int n => match ixN xs.length n with
      | some m => .ok .nx (putAt i (xs.set m d) s2)
      | none => .bad
    | _, _ => .bad
theorem fs_store {idx : Expr} {fi : B D} (i : Nat) (ha : FE X a fa) (hi : FE X idx fi) (hN : X.N[i]? = some x := by rfl) (hv : Vis X.env.scope x := by first | exact Or.inl rfl | exact Or.inr (Or.inl rfl) | exact Or.inr (Or.inr rfl)) (hd : (x == ("__debug__" : Str)) = false := by decide) (hcd : (x == ("__classdict__" : Str)) = false := by decide)
    (hasg : ∀ v, assign (.Subscript (.Name x npos) idx apos) X.env v = (do
      let ov ← holding [v] (eval (.Name x npos) X.env)
      let iv ← holding [v, ov] (eval idx X.env)
      standAt apos
      holding [v, ov, iv] (setItem ov iv v)
      release [v, ov, iv] []) := by intro _; rfl)
    (hs : swapsWithSole [.Subscript (.Name x npos) idx apos] a spos.line X.env = pure false := by rfl) (hw : swappedStores [.Subscript (.Name x npos) idx apos] a X.env = pure none := by rfl)
    (h1 : (assignEach [.Subscript (.Name x npos) idx apos] X.env).map (·.2) = [assign (.Subscript (.Name x npos) idx apos) X.env] := by rfl) : FS X (.Assign [.Subscript (.Name x npos) idx apos] a spos) (sStore i fi fa) := by
  refine ⟨fun pa B0 W tk => ⟨fun pins s σ H En I ⟨Z, st, k, w⟩ => (ps_asg (ha.pe pa B0 W tk) (pg_sub (pe_var hN hv hd hcd) (hi.pe pa B0 W tk) set_list hasg) hs hw h1).run pins s σ H En I ?_⟩⟩
  refine ⟨Z, st, k, (EndS.ofE w).imp fun d s1 Z1 H1 k1 _ w1 u ru => ?_⟩
  cases e : ownAt i s1 with
  | none => rw [e] at w1; exact False.elim w1
  | some xs =>
    rw [e] at w1
    obtain ⟨p, vs, hp, hl, ra⟩ := own_list k1 e
    refine ⟨.ref p, hp, Z1, s1, k1, (EndS.ofE w1).imp fun j s2 Z2 H2 k2 z2 w2 t rt => ?_⟩
    cases e1 : ownAt i s2 with
    | none => rw [e1] at w2; exact False.elim w2
    | some ys =>
      rw [e1] at w2
      cases j with
      | int n =>
        cases rt
        have w2 : EndS X.K X.mg pa B0 W Z2 (match ixN ys.length n with
          | some m => .ok .nx (putAt i (ys.set m d) s2)
          | none => .bad) En := w2
        cases hm : ixN ys.length n with
        | none => rw [hm] at w2; exact False.elim w2
        | some m =>
          rw [hm] at w2
          obtain ⟨ws, h2, _, _, h5⟩ := k2.ownH (ownAt_some e1) hp
          exact ⟨p, ws, n, m, rfl, rfl, h2, by rw [h5.length]; exact hm, EndS.nx w2 (k2.put (ownAt_some e1) hp (RepA.set (ru.mono z2.zz) m h5))⟩
      | _ => exact False.elim w2
/-- pool[k] = e, k written -/
def aPool (i : Nat) (k : Int) : Asg := fun d s => match s.env[i]?, s.pool, d with
  | some (.v (.dict [(.none, .none)])), some ps, .int n => match ixN ps.length k with
    | some m => .ok () { s with pool := some (ps.set m n) }
    | none => .bad
  | _, _, _ => .bad
theorem fg_pool {kk : Int} {ck : Nat} {kpos : Pos} (i : Nat) (hN : X.N[i]? = some x := by rfl) (hv : Vis X.env.scope x := by first | exact Or.inl rfl | exact Or.inr (Or.inl rfl) | exact Or.inr (Or.inr rfl)) (hd : (x == ("__debug__" : Str)) = false := by decide) (hcd : (x == ("__classdict__" : Str)) = false := by decide)
    (hasg : ∀ v, assign (.Subscript (.Name x npos) (.Constant (.int kk) ck kpos) apos) X.env v = (do
      let ov ← holding [v] (eval (.Name x npos) X.env)
      let iv ← holding [v, ov] (eval (.Constant (.int kk) ck kpos) X.env)
      standAt apos
      holding [v, ov, iv] (setItem ov iv v)
      release [v, ov, iv] []) := by intro _; rfl) : FG X (.Subscript (.Name x npos) (.Constant (.int kk) ck kpos) apos) false [] (aPool i kk) := by
  refine ⟨fun pa B0 => ⟨fun pins s σ H v u Q I rv ⟨Z, st, d, k, r, w⟩ => (pg_sub (pe_var hN hv hd hcd) pe_int set_list hasg).run pins s σ H v u Q I rv ?_⟩⟩
  have r : Rep X.K pa Z v d := r
  unfold aPool at w
  split at w
  · rename_i s' hw
    split at hw
    · rename_i ps n q1 q2 hr0
      split at hw
      · rename_i m hm
        cases hw
        obtain ⟨pv, h1, h2⟩ := k.val i _ q1
        have hpv : pv = .ref pa := by cases h2; rfl
        subst hpv
        have hv' : v = .int n := by cases r; rfl
        subst hv'
        refine ⟨.ref pa, h1, pa, ps.map V.int, kk, m, rfl, rfl, (k.pool ps q2).1, by rw [List.length_map]; exact hm, ?_⟩
        have k' := k.putPool q2 (qs := ps.set m n)
        have e : (ps.map V.int).set m (V.int n) = (ps.set m n).map V.int := by rw [List.map_set]
        rw [e]
        exact w σ _ Z k' (ZExt.refl B0 Z) rfl fun _ _ => rfl
      · cases hw
    · cases hw
  · exact False.elim w
end
end FL
set_option maxHeartbeats 1000000
/-! FL9: built-in calls. -/
namespace FL
open PySem PySem.Spec PyProof.Rows L2

section
variable {K : PySem.W.Frag} {pa : Addr} {Z H : Hp}
theorem ha1 {xs : List V} {d : D} (h : RepHA K pa Z H xs [d]) : ∃ x, xs = [x] ∧ RepH K pa Z H x d := by
  cases h with
  | cons r t =>
    cases t
    exact ⟨_, rfl, r⟩
theorem ha2 {xs : List V} {d e : D} (h : RepHA K pa Z H xs [d, e]) : ∃ x y, xs = [x, y] ∧ RepH K pa Z H x d ∧ RepH K pa Z H y e := by
  cases h with
  | cons r t =>
    obtain ⟨y, rfl, q⟩ := ha1 t
    exact ⟨_, _, rfl, r, q⟩
theorem h_int {x : V} {i : Int} (r : RepH K pa Z H x (.int i)) : x = .int i := by
  cases r.rep (fun _ q => nomatch q)
  rfl
theorem h_bl {x : V} {b : Bool} (r : RepH K pa Z H x (.bool b)) : x = .bl b := by
  cases r.rep (fun _ q => nomatch q)
  rfl
theorem h_str {x : V} {b : Str} (r : RepH K pa Z H x (.str b)) : x = .str b := by
  cases r.rep (fun _ q => nomatch q)
  rfl
theorem h_tup {x : V} {ds : List D} (z : Same Z H) (r : RepH K pa Z H x (.tuple ds)) : ∃ a vs, x = .ref a ∧ TupZ K H a vs ∧ RepA K pa Z vs ds := by
  cases r.rep (fun _ q => nomatch q) with
  | tup h ra => exact ⟨_, _, rfl, h.mono z, ra⟩
end
/-- a list or a tuple -/
abbrev Seq2 (K : PySem.W.Frag) (H : Hp) (a : Addr) (vs : List V) : Prop := SqL K H a vs ∨ SqT K H a vs
theorem seq2_of {K : PySem.W.Frag} {pa : Addr} {Z H : Hp} {x : V} {d : D} {ds : List D} (z : Same Z H) (r : RepH K pa Z H x d) (e : itemsOf d = some ds) : ∃ a vs, x = .ref a ∧ Seq2 K H a vs ∧ RepA K pa Z vs ds := by
  cases d with
  | list es =>
    cases e
    obtain ⟨p, vs, hv, hp, ra⟩ := r.list z
    exact ⟨p, vs, hv, .inl (.of hp), ra⟩
  | tuple es =>
    cases e
    obtain ⟨a, vs, hv, hp, ra⟩ := h_tup z r
    exact ⟨a, vs, hv, .inr hp.sq, ra⟩
  | _ => cases e

/-! ### len, abs, int, bool, min, max of two -/
def gLen : List D → Option D
  | [.list ds] => some (.int ds.length)
  | [.tuple ds] => some (.int ds.length)
  | [.str x] => if x.length ≤ sizeLine then some (.int x.length) else none
  | [.dict [(.bool true, .list ds)]] => some (.int ds.length)
  | _ => none
theorem c_len {K : PySem.W.Frag} : CallG K (fun xs H Q => ∃ x n, xs = [x] ∧ LenV K x H n ∧ Q (.int n) H) gLen := by
  intro pa xs ds z Z H Q zh r hg q
  unfold gLen at hg
  split at hg
  · cases hg
    obtain ⟨x, rfl, rx⟩ := ha1 r
    obtain ⟨p, vs, rfl, hp, ra⟩ := rx.list zh
    exact ⟨_, _, rfl, .inl ⟨vs, .of hp, rfl⟩, by rw [ra.length]; exact q _ _ _ (Grow.refl zh) (.int _)⟩
  · cases hg
    obtain ⟨x, rfl, rx⟩ := ha1 r
    obtain ⟨p, vs, rfl, hp, ra⟩ := h_tup zh rx
    exact ⟨_, _, rfl, .inr ⟨vs, hp.sq, rfl⟩, by rw [ra.length]; exact q _ _ _ (Grow.refl zh) (.int _)⟩
  · split at hg
    · rename_i hz
      cases hg
      obtain ⟨x, rfl, rx⟩ := ha1 r
      have hx := h_str rx
      subst hx
      exact ⟨_, _, rfl, ⟨hz, rfl⟩, q _ _ _ (Grow.refl zh) (.int _)⟩
    · cases hg
  · cases hg
    obtain ⟨x, rfl, rx⟩ := ha1 r
    obtain ⟨a, vs, rfl, hp, ra⟩ := RepH.scr zh rx
    exact ⟨_, _, rfl, .inl ⟨vs, hp, rfl⟩, by rw [ra.length]; exact q _ _ _ (Grow.refl zh) (.int _)⟩
  · cases hg
def gAbs : List D → Option D
  | [.int i] => some (.int (if i < 0 then -i else i))
  | _ => none
theorem c_abs {K : PySem.W.Frag} : CallG K (fun xs H Q => ∃ i, xs = [.int i] ∧ Q (.int (if i < 0 then -i else i)) H) gAbs := by
  intro pa xs ds z Z H Q zh r hg q
  unfold gAbs at hg
  split at hg
  · cases hg
    obtain ⟨x, rfl, rx⟩ := ha1 r
    exact ⟨_, by rw [h_int rx], q _ _ _ (Grow.refl zh) (.int _)⟩
  · cases hg
def gMax2 : List D → Option D
  | [.int i, .int j] => some (.int (if j > i then j else i))
  | _ => none
def gMin2 : List D → Option D
  | [.int i, .int j] => some (.int (if j < i then j else i))
  | _ => none
theorem c_max2 {K : PySem.W.Frag} : CallG K (fun xs H Q => ∃ i j, xs = [.int i, .int j] ∧ Q (.int (if j > i then j else i)) H) gMax2 := by
  intro pa xs ds z Z H Q zh r hg q
  unfold gMax2 at hg
  split at hg
  · cases hg
    obtain ⟨x, y, rfl, rx, ry⟩ := ha2 r
    exact ⟨_, _, by rw [h_int rx, h_int ry], q _ _ _ (Grow.refl zh) (.int _)⟩
  · cases hg
theorem c_min2 {K : PySem.W.Frag} : CallG K (fun xs H Q => ∃ i j, xs = [.int i, .int j] ∧ Q (.int (if j < i then j else i)) H) gMin2 := by
  intro pa xs ds z Z H Q zh r hg q
  unfold gMin2 at hg
  split at hg
  · cases hg
    obtain ⟨x, y, rfl, rx, ry⟩ := ha2 r
    exact ⟨_, _, by rw [h_int rx, h_int ry], q _ _ _ (Grow.refl zh) (.int _)⟩
  · cases hg
def gInt : List D → Option D
  | [.int i] => some (.int i)
  | [.bool b] => some (.int (if b then 1 else 0))
  | _ => none
theorem c_int {K : PySem.W.Frag} : CallG K (fun xs H Q => (∃ i, xs = [.int i] ∧ Q (.int i) H) ∨ ∃ k, xs = [.bl k] ∧ Q (.int (if k then 1 else 0)) H) gInt := by
  intro pa xs ds z Z H Q zh r hg q
  unfold gInt at hg
  split at hg
  · cases hg
    obtain ⟨x, rfl, rx⟩ := ha1 r
    exact .inl ⟨_, by rw [h_int rx], q _ _ _ (Grow.refl zh) (.int _)⟩
  · cases hg
    obtain ⟨x, rfl, rx⟩ := ha1 r
    exact .inr ⟨_, by rw [h_bl rx], q _ _ _ (Grow.refl zh) (.int _)⟩
  · cases hg

/-! ### isinstance -/
def tyD : D → Option String
  | .none => some "NoneType"
  | .bool _ => some "bool"
  | .int _ => some "int"
  | .str _ => some "str"
  | .list _ => some "list"
  | .tuple _ => some "tuple"
  | .dict [] => some "dict"
  | .dict _ => none
theorem tyD_ok {K : PySem.W.Frag} {pa : Addr} {Z H : Hp} {x : V} {d : D} {t : String} (z : Same Z H) (r : RepH K pa Z H x d) (e : tyD d = some t) : TyX K H x (.type t) := by
  cases d with
  | none => cases e; cases r.rep (fun _ q => nomatch q); exact .base .non
  | bool b => cases e; cases r.rep (fun _ q => nomatch q); exact .base (.bl _)
  | int b => cases e; cases r.rep (fun _ q => nomatch q); exact .base (.int _)
  | str b => cases e; cases r.rep (fun _ q => nomatch q); exact .base (.str _)
  | list b =>
    cases e
    obtain ⟨p, vs, rfl, hp, ra⟩ := r.list z
    exact .base (.lst hp)
  | tuple b =>
    cases e
    obtain ⟨a, vs, rfl, hp, ra⟩ := h_tup z r
    rcases hp with ⟨o, h, _⟩ | ⟨o, its, n, h1, h2, _⟩
    · exact .fTuple h
    · exact .kTuple h1 h2
  | dict b =>
    cases b with
    | nil =>
      cases e
      cases r.rep (fun _ q => nomatch q) with
      | dic0 h => exact .base (.dK (z _ _ h))
    | cons y l => simp [tyD] at e
/-- isinstance(e, T), T a built-in's name -/
def eIsi (T : String) (f : B Src) : B D := do
  let x ← f
  let d ← rd x
  lift ((tyD d).bind fun t => (kitB t T).map .bool)
section
variable {X : Cx} {e : Expr} {es : List Expr} {sa : B Src} {p pos pt : Pos}
theorem pe_ty {T : String} {x : Str} (hg : Gl X x) (hm : X.mg x = none) (hv : bootBuiltins x = some (.type T)) (hn : x ≠ "__name__") (hdb : (x == ("__debug__" : Str)) = false) : PE X (.Name x pos) (tC (.ty T)) :=
  pe_bltn hg hm hv rfl hn hdb
theorem fe_isi {T : String} {x : Str} (hgi : Gl X "isinstance") (hmi : X.mg "isinstance" = none) (hg : Gl X x) (hm : X.mg x = none) (hv : bootBuiltins x = some (.type T)) (ha : FB X e sa) (hn : x ≠ "__name__" := by decide) (hdb : (x == ("__debug__" : Str)) = false := by decide)
    (he : starEach [e, .Name x pt] X.env = (false, eval e X.env) :: starEach [.Name x pt] X.env := by rfl) (he2 : starEach [.Name x pt] X.env = (false, eval (.Name x pt) X.env) :: starEach [] X.env := by rfl) (hpl : (backTo pos (starEach [.Name x pt] X.env)).any (·.1) = false := by rfl) :
    FE X (.Call (.Name "isinstance" p) [e, .Name x pt] [] pos) (eIsi T sa) := by
  refine ⟨fun pa B0 W tk => ⟨fun pins s σ H Q I ⟨Z, st, k, w⟩ => (pe_callB call_isi hgi hmi boot_isinstance (pa_cons (ha.pe pa B0 W tk) (pa_cons (pe_ty hg hm hv hn hdb) pa_nil he2) he) (by decide) (by decide) he hpl).run pins s σ H Q I ?_⟩⟩
  refine ⟨Z, st, k, (End.bind w).imp fun y s1 Z1 H1 k1 _ w1 v rv => ?_⟩
  obtain ⟨d, hd, w2⟩ := End.rd k1 rv w1
  obtain ⟨z, hz, w3⟩ := End.lift1 w2
  obtain ⟨t, ht, hk⟩ := Option.bind_eq_some_iff.mp hz
  obtain ⟨b, hb, rfl⟩ := Option.map_eq_some_iff.mp hk
  exact ⟨v, .ty T, .type t, .type T, b, rfl, .ty T, tyD_ok k1.sub hd ht, kit_ty hb, End.pure w3 k1 _ (.bl b)⟩
end
end FL
set_option maxHeartbeats 1000000
/-! FL10: tuple, list, sum, min, max, any, all, sorted. -/
namespace FL
open PySem PySem.Spec PyProof.Rows L2

theorem shaped_seq {d : D} {ds : List D} (e : itemsOf d = some ds) (h : SeqAt.shaped d = true) : PyData.canLayAll0 ds = true ∧ PyData.depthAll ds ≤ 63 := by
  have h2 := SeqAt.depth_of_shaped h
  cases d with
  | list es =>
    cases e
    exact ⟨SeqAt.canLay_of_shaped h, by simp only [PyData.depth] at h2; omega⟩
  | tuple es =>
    cases e
    exact ⟨SeqAt.canLay_of_shaped h, by simp only [PyData.depth] at h2; omega⟩
  | _ => cases e
section
variable {X : Cx}
/-- the values of a list or tuple, as the heap has them -/
theorem seq2_at {pins : List (Addr × Obj)} {σ : VSt} {H : Hp} {s : Shared} {a : Addr} {vs : List V} (I : Inv X pins σ H s) (h : Seq2 X.K H a vs) : ∃ its : List Value, Vals vs its ∧ (s.heap.IsList a its.toArray ∨ s.heap.IsTuple a its.toArray) ∧ vs.length ≤ sizeLine := by
  rcases h with h | h
  · obtain ⟨its, rv, p, hz⟩ := I.list h
    exact ⟨its, rv, .inl p.isList, hz⟩
  · obtain ⟨its, rv, p, hz⟩ := I.tuple h
    exact ⟨its, rv, .inr p, hz⟩

/-! ### tuple(x), list(x) -/
def rTupOf (K : PySem.W.Frag) : RC := fun vs H Q => (∃ p xs, vs = [.ref p] ∧ SqL K H p xs ∧ rTupN xs H Q) ∨ (∃ p xs, vs = [.ref p] ∧ SqT K H p xs ∧ Q (.ref p) H)
theorem cr_tupOf : CallR X (.type "tuple") (rTupOf X.K) := by
  intro pins s σ H vs us Q I r h
  rcases h with ⟨p, xs, rfl, hs, q⟩ | ⟨p, xs, rfl, hs, q⟩
  · rw [Vals.ref1 r]
    obtain ⟨its, rv, pl, hz⟩ := I.list hs
    refine call_tuple_list pl.isList (fun h' hk => ?_) (by rw [List.size_toArray, ← rv.length]; exact hz)
    have I1 : Inv X pins σ H { s with heap := h' } := I.kept (t' := s.toks) hk
    exact ⟨.ref h'.objs.size, _, FL.Inv.newTup (tk := s.toks) I1 rv hz, rfl, q _ _ (I1.hok.fresh (Nat.le_refl _)) rfl⟩
  · rw [Vals.ref1 r]
    obtain ⟨its, rv, pl, hz⟩ := I.tuple hs
    exact call_tuple_tup pl ⟨.ref p, H, I, rfl, q⟩
def gTupOf : List D → Option D
  | [.list ds] => some (.tuple ds)
  | [.tuple ds] => some (.tuple ds)
  | [.dict [(.bool true, .list ds)]] => some (.tuple ds)
  | _ => none
theorem c_tupOf {K : PySem.W.Frag} : CallG K (rTupOf K) gTupOf := by
  intro pa xs ds z Z H Q zh r hg q
  unfold gTupOf at hg
  split at hg
  · cases hg
    obtain ⟨x, rfl, rx⟩ := ha1 r
    obtain ⟨p, vs, rfl, hp, ra⟩ := rx.list zh
    exact .inl ⟨p, vs, rfl, .of hp, rTupN_of zh ra q⟩
  · cases hg
    obtain ⟨x, rfl, rx⟩ := ha1 r
    cases rx.rep (fun _ q => nomatch q) with
    | tup hp ra => exact .inr ⟨_, _, rfl, sqT_mono zh hp.sq, q _ _ _ (Grow.refl zh) (.tup hp ra)⟩
  · cases hg
    obtain ⟨x, rfl, rx⟩ := ha1 r
    obtain ⟨a, vs, rfl, hp, ra⟩ := RepH.scr zh rx
    exact .inl ⟨a, vs, rfl, hp, rTupN_of zh ra q⟩
  · cases hg
def gLstOf : List D → Option (List D)
  | [.list ds] => some ds
  | [.tuple ds] => some ds
  | [.dict [(.bool true, .list ds)]] => some ds
  | _ => none
def rLstOf (K : PySem.W.Frag) : RC := fun xs H Q => ∃ p ys, xs = [.ref p] ∧ (SqL K H p ys ∨ SqT K H p ys) ∧ ∀ l, H l = none → Q (.ref l) (upd H l (.lst ys))
theorem c_lstOf {K : PySem.W.Frag} : CallL K (rLstOf K) gLstOf := by
  intro pa xs ds zs Z H Q zh r hg q
  have fin : ∀ p ys, Seq2 K H p ys → RepA K pa Z ys zs → rLstOf K [.ref p] H Q := fun p ys hs ra => ⟨p, ys, rfl, hs, fun l hl => q l ys Z _ (Grow.new0 zh hl) hl upd_same (free_sub zh hl) ra⟩
  unfold gLstOf at hg
  split at hg
  · cases hg
    obtain ⟨x, rfl, rx⟩ := ha1 r
    obtain ⟨p, vs, rfl, hp, ra⟩ := rx.list zh
    exact fin p vs (.inl (.of hp)) ra
  · cases hg
    obtain ⟨x, rfl, rx⟩ := ha1 r
    obtain ⟨p, vs, rfl, hp, ra⟩ := h_tup zh rx
    exact fin p vs (.inr hp.sq) ra
  · cases hg
    obtain ⟨x, rfl, rx⟩ := ha1 r
    obtain ⟨a, vs, rfl, hp, ra⟩ := RepH.scr zh rx
    exact fin a vs (.inl hp) ra
  · cases hg

/-! ### sum -/
theorem iter_tup {prog : Program} {w : World} {A : Around} {E : Value → Shared → Prop} {s : Shared} {l : Addr} {items : Array Value} {Q : Value → Shared → Prop} (hl : s.heap.IsTuple l items)
    (h : ∀ s₂ : Shared, s₂ = { s with heap := s.heap.push { cls := .type "tuple_iterator", data := .fields #[.ref l, .int 0 0] } } →
      (s₂.heap.IsTupleIter s.heap.objs.size l 0 ∧ s₂.heap.IsTuple l items) → l ≠ s.heap.objs.size → Q (.ref s.heap.objs.size) s₂) : wpAny (model prog w) A (pyIter (.ref l)) Q E s := by
  have hlt : l < s.heap.objs.size := by obtain ⟨_, e, _⟩ := hl; exact Heap.lt_size e
  refine wpAny_pyIter_tuple hl (h _ rfl ⟨⟨_, Heap.get?_push_size _ rfl, rfl, rfl⟩, ?_⟩ (Nat.ne_of_lt hlt))
  obtain ⟨o, e, c⟩ := hl
  exact ⟨o, Heap.get?_push_of_some _ e, c⟩
theorem sum_tup {prog : Program} {w : World} {A : Around} {E : Value → Shared → Prop} {s : Shared} {l : Addr} {its : List Value} {ns : List Int} {Q : Value → Shared → Prop} (hh : A.handled = none) (hl : s.heap.IsTuple l its.toArray) (hi : IntsAre its ns)
    (h : ∀ h' tk t', (∀ b o, s.heap.get? b = some o → h'.get? b = some o) → Q (.int ns.sum t') { s with heap := h', toks := tk }) : wpAny (model prog w) A (call (.builtin "sum") [.ref l]) Q E s := by
  obtain ⟨xs, e⟩ := hi.allInts.items
  have hn : numsOf (intItems xs).toList = ns := by rw [← e]; exact hi.numsOf
  rw [nums_intItems] at hn
  rw [e] at hl
  have hlt : l < s.heap.objs.size := by obtain ⟨_, e, _⟩ := hl; exact Heap.lt_size e
  refine call_sum_walkG (iter_tup hl fun s₂ e st hne => ?_)
  subst e
  refine ⟨_, _, _, _, _, _, numAt xs, rfl, Walks.tuple (A := A.in1) hh _ l hne (intItems xs), st, fun b hb => ?_, (fun _ _ => intItems_at), fun h' tk t' hk => ?_⟩
  · show b < (s.heap.push _).objs.size
    rw [Heap.size_push]
    rcases List.mem_cons.mp hb with rfl | hb
    · exact Nat.lt_succ_self _
    · rcases List.mem_cons.mp hb with rfl | hb
      · exact Nat.lt_succ_of_lt hlt
      · cases hb
  · have := h h' tk t' fun b o eo => hk b o (fun hb => absurd (Heap.lt_size eo) ((List.mem_singleton.mp hb) ▸ Nat.lt_irrefl _)) (Heap.get?_push_of_some _ eo)
    have e2 : (intItems xs).size = xs.size := by simp [intItems]
    rw [e2, preSum_eq, List.take_of_length_le (by simp), hn]
    exact this
def rSumA (K : PySem.W.Frag) : RC := fun vs H Q => ∃ (a : Addr) (ns : List Int), vs = [V.ref a] ∧ Seq2 K H a (ns.map V.int) ∧ Q (.int ns.sum) H
theorem cr_sumA (hc : X.calm = true) : CallR X (.builtin "sum") (rSumA X.K) := by
  intro pins s σ H vs us Q I r h
  obtain ⟨a, ns, rfl, hs, q⟩ := h
  obtain ⟨its, rv, hl, _⟩ := seq2_at I hs
  rw [Vals.ref1 r]
  rcases hl with hl | hl
  · exact sum_raw (I.ok.hd hc) hl rv.ints fun h' tk t' hk => ⟨.int _, H, I.kept hk, ⟨_, rfl⟩, q⟩
  · exact sum_tup (I.ok.hd hc) hl rv.ints fun h' tk t' hk => ⟨.int _, H, I.kept hk, ⟨_, rfl⟩, q⟩
def intsD : List D → Option (List Int)
  | [] => some []
  | .int i :: ds => (intsD ds).map (i :: ·)
  | _ => none
theorem intsD_eq : ∀ {ds : List D} {ns : List Int}, intsD ds = some ns → ds = ns.map PyData.int
  | [], _, h => by cases h; rfl
  | .int i :: ds, ns, h => by
    obtain ⟨ms, h1, h2⟩ := Option.map_eq_some_iff.mp h
    rw [← h2, intsD_eq h1]
    rfl
  | .none :: _, _, h => by cases h
  | .bool _ :: _, _, h => by cases h
  | .str _ :: _, _, h => by cases h
  | .list _ :: _, _, h => by cases h
  | .tuple _ :: _, _, h => by cases h
  | .dict _ :: _, _, h => by cases h
theorem intsD_map (ns : List Int) : intsD (ns.map PyData.int) = some ns := by
  induction ns with
  | nil => rfl
  | cons n ns ih => simp [intsD, ih]
theorem RepA.int {K : PySem.W.Frag} {pa : Addr} {Z : Hp} : ∀ {ns : List Int} {vs : List V}, RepA K pa Z vs (ns.map PyData.int) → vs = ns.map V.int
  | [], _, .nil => rfl
  | n :: ns, _, .cons r t => by
    cases r
    rw [RepA.int t]
    rfl
def gSum : List D → Option D
  | [d] => (itemsOf d).bind fun ds => (intsD ds).map fun ns => .int ns.sum
  | _ => none
theorem c_sum {K : PySem.W.Frag} : CallG K (rSumA K) gSum := by
  intro pa xs ds z Z H Q zh r hg q
  unfold gSum at hg
  split at hg
  · rename_i d
    obtain ⟨es, h1, h2⟩ := Option.bind_eq_some_iff.mp hg
    obtain ⟨ns, h3, rfl⟩ := Option.map_eq_some_iff.mp h2
    obtain ⟨x, rfl, rx⟩ := ha1 r
    obtain ⟨a, vs, rfl, hs, ra⟩ := seq2_of zh rx h1
    rw [intsD_eq h3] at ra
    rw [ra.int] at hs
    exact ⟨a, ns, rfl, hs, q _ _ _ (Grow.refl zh) (.int _)⟩
  · cases hg

/-! ### any, all of truth values -/
def rAnyA (K : PySem.W.Frag) (al : Bool) : RC := fun vs H Q => ∃ (a : Addr) (bs : List Bool), vs = [V.ref a] ∧ Seq2 K H a (bs.map V.bl) ∧ Q (.bl (if al then bs.all id else bs.any id)) H
theorem cr_anyA (hc : X.calm = true) : CallR X (.builtin "any") (rAnyA X.K false) := by
  intro pins s σ H vs us Q I r h
  obtain ⟨a, bs, rfl, hs, q⟩ := h
  rcases hs with hs | hs
  · exact cr_any hc pins s σ H _ us Q I r ⟨a, bs, rfl, hs, q⟩
  obtain ⟨its, rv, hl, _⟩ := I.tuple hs
  rw [Vals.ref1 r]
  have hb := rv.bls
  refine call_any_walk (iter_tup hl fun s₂ e2 st hne => ?_)
  subst e2
  refine ⟨_, _, _, _, _, _, _, rfl, Walks.tuple (A := X.A.in1) (I.ok.hd hc) _ a hne its.toArray, st, truth_bools hb, fun h' tk hk => ?_⟩
  refine ⟨.bl _, H, I.kept fun b o eo => hk b o (fun hmem => ?_) (Heap.get?_push_of_some _ eo), ?_, q⟩
  · exact absurd (Heap.lt_size eo) ((List.mem_singleton.mp hmem) ▸ Nat.lt_irrefl _)
  · show Value.bool _ = Value.bool _
    rw [if_neg (by decide), ← L2.any_range, hb, List.size_toArray, List.length_map]
theorem cr_allA (hc : X.calm = true) : CallR X (.builtin "all") (rAnyA X.K true) := by
  intro pins s σ H vs us Q I r h
  obtain ⟨a, bs, rfl, hs, q⟩ := h
  rcases hs with hs | hs
  · exact cr_all hc pins s σ H _ us Q I r ⟨a, bs, rfl, hs, q⟩
  obtain ⟨its, rv, hl, _⟩ := I.tuple hs
  rw [Vals.ref1 r]
  have hb := rv.bls
  refine call_all_walk (iter_tup hl fun s₂ e2 st hne => ?_)
  subst e2
  refine ⟨_, _, _, _, _, _, _, rfl, Walks.tuple (A := X.A.in1) (I.ok.hd hc) _ a hne its.toArray, st, truth_bools hb, fun h' tk hk => ?_⟩
  refine ⟨.bl _, H, I.kept fun b o eo => hk b o (fun hmem => ?_) (Heap.get?_push_of_some _ eo), ?_, q⟩
  · exact absurd (Heap.lt_size eo) ((List.mem_singleton.mp hmem) ▸ Nat.lt_irrefl _)
  · show Value.bool _ = Value.bool _
    rw [if_pos rfl, ← L2.all_range, hb, List.size_toArray, List.length_map]
def blsD : List D → Option (List Bool)
  | [] => some []
  | .bool i :: ds => (blsD ds).map (i :: ·)
  | _ => none
theorem blsD_eq : ∀ {ds : List D} {ns : List Bool}, blsD ds = some ns → ds = ns.map PyData.bool
  | [], _, h => by cases h; rfl
  | .bool i :: ds, ns, h => by
    obtain ⟨ms, h1, h2⟩ := Option.map_eq_some_iff.mp h
    rw [← h2, blsD_eq h1]
    rfl
  | .none :: _, _, h => by cases h
  | .int _ :: _, _, h => by cases h
  | .str _ :: _, _, h => by cases h
  | .list _ :: _, _, h => by cases h
  | .tuple _ :: _, _, h => by cases h
  | .dict _ :: _, _, h => by cases h
theorem blsD_map (ns : List Bool) : blsD (ns.map PyData.bool) = some ns := by
  induction ns with
  | nil => rfl
  | cons n ns ih => simp [blsD, ih]
theorem RepA.bl {K : PySem.W.Frag} {pa : Addr} {Z : Hp} : ∀ {ns : List Bool} {vs : List V}, RepA K pa Z vs (ns.map PyData.bool) → vs = ns.map V.bl
  | [], _, .nil => rfl
  | n :: ns, _, .cons r t => by
    cases r
    rw [RepA.bl t]
    rfl
def gAny (al : Bool) : List D → Option D
  | [d] => (itemsOf d).bind fun ds => (blsD ds).map fun bs => .bool (if al then bs.all id else bs.any id)
  | _ => none
theorem c_any {K : PySem.W.Frag} {al : Bool} : CallG K (rAnyA K al) (gAny al) := by
  intro pa xs ds z Z H Q zh r hg q
  unfold gAny at hg
  split at hg
  · rename_i d
    obtain ⟨es, h1, h2⟩ := Option.bind_eq_some_iff.mp hg
    obtain ⟨bs, h3, rfl⟩ := Option.map_eq_some_iff.mp h2
    obtain ⟨x, rfl, rx⟩ := ha1 r
    obtain ⟨a, vs, rfl, hs, ra⟩ := seq2_of zh rx h1
    rw [blsD_eq h3] at ra
    rw [ra.bl] at hs
    exact ⟨a, bs, rfl, hs, q _ _ _ (Grow.refl zh) (.bl _)⟩
  · cases hg

/-! ### min, max -/
def notNone : D → Bool
  | .none => false
  | _ => true
/-- they can be compared -/
def okCmp (ds : List D) : Bool := (ds.all fun x => ds.all fun y => PySem.W.alike x y) && ds.all notNone
theorem okCmp_all {ds : List D} (h : okCmp ds = true) : PySem.W.AlikeAll ds := by
  unfold okCmp at h
  rw [Bool.and_eq_true] at h
  refine ⟨fun x hx y hy => List.all_eq_true.mp (List.all_eq_true.mp h.1 x hx) y hy, fun x hx e => ?_⟩
  have := List.all_eq_true.mp h.2 x hx
  rw [e] at this
  cases this
theorem fold_mem {f : D → D → Bool} : ∀ (xs : List D) (x : D), xs.foldl (fun a y => if f y a then y else a) x ∈ x :: xs
  | [], x => by simp
  | y :: ys, x => by
    rw [List.foldl_cons]
    by_cases h : f y x = true
    · rw [if_pos h]
      exact List.mem_cons_of_mem _ (fold_mem ys y)
    · rw [if_neg h]
      rcases List.mem_cons.mp (fold_mem (f := f) ys x) with e | e
      · rw [e]; exact List.mem_cons_self
      · exact List.mem_cons_of_mem _ (List.mem_cons_of_mem _ e)
theorem minD_mem (x : D) (xs : List D) : PySem.W.minD x xs ∈ x :: xs := fold_mem (f := fun y a => PySem.W.dataLt y a) xs x
theorem maxD_mem (x : D) (xs : List D) : PySem.W.maxD x xs ∈ x :: xs := fold_mem (f := fun y a => PySem.W.dataLt a y) xs x
def bestD (mx : Bool) (x : D) (xs : List D) : D := if mx then PySem.W.maxD x xs else PySem.W.minD x xs
def rBest (K : PySem.W.Frag) (mx : Bool) : RC := fun vs H Q => ∃ (a : Addr) (xs : List V) (d : D) (ds : List D), vs = [V.ref a] ∧ Seq2 K H a xs ∧ DpAll K H xs (d :: ds) ∧ PySem.W.AlikeAll (d :: ds) ∧ PyData.depthAll (d :: ds) ≤ 63 ∧
  ∀ (i : Nat) (v : V), xs[i]? = some v → (d :: ds)[i]? = some (bestD mx d ds) → Q v H
theorem best_aux {pins : List (Addr × Obj)} {σ : VSt} {H : Hp} {s : Shared} {Q : VK} {mx : Bool} {a : Addr} {xs : List V} {d : D} {ds : List D} {its : List Value} {as : List Addr} (I : Inv X pins σ H s) (rv : Vals xs its) (hr : ReadsAll s.heap its (d :: ds) as) (ha : PySem.W.AlikeAll (d :: ds))
    (q : ∀ (i : Nat) (v : V), xs[i]? = some v → (d :: ds)[i]? = some (bestD mx d ds) → Q v H) {i : Nat} {v : Value} {h' : Heap} {tk : Nat} {bs : List Addr} (hv : its.toArray[i]? = some v) (hb : Reads h' v (bestD mx d ds) bs) (hk : ∀ b o, s.heap.get? b = some o → h'.get? b = some o) : EP X pins σ Q v { s with heap := h', toks := tk } := by
  have hv' : its[i]? = some v := by simpa using hv
  have hi : i < xs.length := by rw [rv.length]; exact (List.getElem?_eq_some_iff.mp hv').1
  obtain ⟨u, hu, ru⟩ := rv.get (List.getElem?_eq_getElem hi)
  rw [hv'] at hu
  cases hu
  obtain ⟨cs, r2, h3, h4, _⟩ := PySem.W.readsAll_at hr i v hv'
  have hm : bestD mx d ds ∈ d :: ds := by
    unfold bestD
    split
    · exact maxD_mem d ds
    · exact minD_mem d ds
  have e := PySem.W.alike_unique _ _ _ _ _ (ha.1 _ hm _ h4) hb (PySem.W.reads_keeps hk r2)
  refine ⟨xs[i], H, I.kept hk, ru, q i _ (List.getElem?_eq_getElem hi) ?_⟩
  rw [e, List.getD_eq_getElem?_getD, List.getElem?_eq_getElem h3]
  rfl
theorem cr_minA (hc : X.calm = true) (hu : X.A.units + 65 < cLine) : CallR X (.builtin "min") (rBest X.K false) := by
  intro pins s σ H vs us Q I r h
  obtain ⟨a, xs, d, ds, rfl, hs, hd, ha, hz, q⟩ := h
  obtain ⟨its, rv, hl, _⟩ := seq2_at I hs
  rw [Vals.ref1 r]
  obtain ⟨as, hr⟩ := Dp.readsAll I (d :: ds) xs its hd rv
  rcases hl with hl | hl
  · exact PySem.W.min_list_data (I.ok.hd hc) hl hr ha (by omega) fun i v h' tk bs hv hb hk => best_aux (a := a) I rv hr ha q hv hb hk
  · exact PySem.W.min_tuple_data (I.ok.hd hc) hl hr ha (by omega) fun i v h' tk bs hv hb hk => best_aux (a := a) I rv hr ha q hv hb hk
theorem cr_maxA (hc : X.calm = true) (hu : X.A.units + 65 < cLine) : CallR X (.builtin "max") (rBest X.K true) := by
  intro pins s σ H vs us Q I r h
  obtain ⟨a, xs, d, ds, rfl, hs, hd, ha, hz, q⟩ := h
  obtain ⟨its, rv, hl, _⟩ := seq2_at I hs
  rw [Vals.ref1 r]
  obtain ⟨as, hr⟩ := Dp.readsAll I (d :: ds) xs its hd rv
  rcases hl with hl | hl
  · exact PySem.W.max_list_data (I.ok.hd hc) hl hr ha (by omega) fun i v h' tk bs hv hb hk => best_aux (a := a) I rv hr ha q hv hb hk
  · exact PySem.W.max_tuple_data (I.ok.hd hc) hl hr ha (by omega) fun i v h' tk bs hv hb hk => best_aux (a := a) I rv hr ha q hv hb hk
def gBest (mx : Bool) : List D → Option D
  | [d] => (itemsOf d).bind fun
    | e :: es => if okCmp (e :: es) = true ∧ SeqAt.shaped d = true then some (bestD mx e es) else none
    | [] => none
  | _ => none
theorem c_best {K : PySem.W.Frag} {mx : Bool} : CallG K (rBest K mx) (gBest mx) := by
  intro pa xs ds z Z H Q zh r hg q
  unfold gBest at hg
  split at hg
  · rename_i d
    obtain ⟨es, h1, h2⟩ := Option.bind_eq_some_iff.mp hg
    obtain ⟨x, rfl, rx⟩ := ha1 r
    obtain ⟨a, vs, rfl, hs, ra⟩ := seq2_of zh rx h1
    cases es with
    | nil => cases h2
    | cons e es =>
      simp only at h2
      split at h2
      · rename_i hok
        cases h2
        obtain ⟨c1, c2⟩ := shaped_seq h1 hok.2
        refine ⟨a, vs, e, es, rfl, hs, Rep.dp.goA _ c1 ra zh, okCmp_all hok.1, c2, fun i v hv hb => ?_⟩
        obtain ⟨d', g1, g2⟩ := ra.at hv
        rw [hb] at g1
        cases g1
        exact q _ _ _ (Grow.refl zh) g2
      · cases h2
  · cases hg
end
end FL
set_option maxHeartbeats 1000000
/-! FL11: sorted; tuple assignments; defs that return a list of their own. -/
namespace FL
open PySem PySem.Spec PyProof.Rows L2

/-! ### sorted(t) of a tuple -/
section
variable {prog : Program} {w : World} {A : Around} {E : Value → Shared → Prop} {s : Shared}
theorem collect_tupl {l : Addr} {vs : List Value} {Q : List Value → Shared → Prop} (hl : s.heap.IsTuple l vs.toArray)
    (h : Q vs { s with heap := (s.heap.push (seqObj "list" #[] 0)).update s.heap.objs.size (Obj.mapSeq (· ++ vs.toArray)) }) (hsz : vs.length ≤ sizeLine) :
    wpAny (model prog w) A (collect (.ref l)) Q E s := by
  obtain ⟨o, ho, hc, n, hd⟩ := id hl
  unfold collect
  refine wpAny_bind (wpAny_runValue (codeAny_builtin entry_proto_collect' ?_))
  show wpAny _ _ (do again (.builtin "list.__iadd__" ⟨[← newList [], .ref l], []⟩)) _ _ s
  refine wpAny_bind (wpAny_newList (wpAny_pure ⟨Code.quiet_builtin _ (by decide +kernel), codeAny_builtin entry_list_iadd' ?_⟩))
  show wpAny _ _ (Builtin.List.listExtendWith (.ref s.heap.objs.size) (.ref l) (.ref s.heap.objs.size)) _ _ { s with heap := s.heap.push (seqObj "list" #[] 0) }
  unfold Builtin.List.listExtendWith
  have ho' : (s.heap.push (seqObj "list" #[] 0)).get? l = some o := Heap.get?_push_of_some _ ho
  refine wpAny_bind (wpAny_typeOf (T := "tuple") ⟨o, ho', hc⟩ ?_)
  have ht : (Value.type "tuple" == Value.type "tuple") = true := by rfl
  rw [if_pos (by rw [ht]; simp)]
  refine wpAny_bind (listItems_at ho' hd ?_)
  refine wpAny_bind (listItems_at (xs := #[]) (n := 0) (Heap.get?_push_size _ rfl) rfl ?_)
  rw [if_neg (by simp)]
  refine wpAny_bind (listUpdate_at (xs := #[]) (n := 0) (Heap.get?_push_size _ rfl) rfl ?_ (Nat.zero_le _) (by show (#[] ++ vs.toArray).size ≤ sizeLine + 1; simp only [Array.size_append, List.size_toArray, List.length_nil]; omega))
  refine wpAny_pure ?_
  show wpAny (model prog w) A (do
      let o ← load s.heap.objs.size
      match o.data with
      | .seq xs _ => pure xs.toList
      | _ => unsupported "internal:collect") Q E { s with heap := (s.heap.push (seqObj "list" #[] 0)).update s.heap.objs.size (Obj.mapSeq (· ++ vs.toArray)) }
  refine wpAny_bind (wpAny_load (get?_update_seq (Heap.get?_push_size _ rfl) _) ?_)
  show wpAny _ _ (pure ((#[] : Array Value) ++ vs.toArray).toList) Q E _
  rw [show ((#[] : Array Value) ++ vs.toArray).toList = vs by simp]
  exact wpAny_pure h
theorem sortedT_of_sort {l : Addr} {vs : List Value} {Q : Value → Shared → Prop} (hl : s.heap.IsTuple l vs.toArray) (hL : vs.length ≤ sizeLine)
    (body : ∀ E' : Value → Shared → Prop, wpAny (model prog w) A.in1.in1 (Builtin.«list.sort» ⟨[.ref (s.heap.objs.size + 1)], []⟩) (fun f s' => f = .done (.ret .none) ∧ Q (.ref (s.heap.objs.size + 1)) s') E' { s with heap := PySem.W.copyHeap s.heap vs }) :
    wpAny (model prog w) A (call (.builtin "sorted") [.ref l]) Q E s := by
  refine call_function_entry_kw kind_sorted plain_sorted entry_sorted (args_sorted1 _) ?_
  unfold Builtin.«sorted»
  refine wpAny_bind (m := checkCount "sorted" 1 1 _) (wpAny_pure ?_)
  refine wpAny_bind (collect_tupl hl ?_ hL)
  refine wpAny_bind (wpAny_newList ?_ hL)
  have hsz : ((s.heap.push (seqObj "list" #[] 0)).update s.heap.objs.size (Obj.mapSeq (· ++ vs.toArray))).objs.size = s.heap.objs.size + 1 := by
    rw [Heap.size_update, size_push']
  show wpAny _ _ _ _ _ { s with heap := PySem.W.copyHeap s.heap vs }
  rw [hsz]
  refine wpAny_bind (wpAny_holding (wpAny_call_entry_kw slot_list_sort ⟨_, PySem.W.copyHeap_at s.heap vs, rfl⟩ entry_list_sort ?body (args_list_sort _)))
  case body =>
    show wpAny (model prog w) A.in1.in1 (Builtin.«list.sort» ⟨[.ref (s.heap.objs.size + 1)], []⟩) _ _ _
    refine wpAny_mono (body _) (fun f s' hf => ?_) fun _ _ e => e
    obtain ⟨rfl, hq⟩ := hf
    exact ⟨_, rfl, wpAny_pure ⟨_, rfl, hq⟩⟩
theorem sorted_both {l : Addr} {β : Type} {vs : List Value} {bs : List β} {enc : β → PyData} {R : Value → β → Prop} {Q : Value → Shared → Prop} (hl : s.heap.IsList l vs.toArray ∨ s.heap.IsTuple l vs.toArray) (e : PySem.W.EachIs R vs bs) (er : PySem.W.EachIs (fun v b => ∃ as, Reads s.heap v (enc b) as) vs bs) (hal : PySem.W.AllAlike (bs.map enc)) (hk : PySem.W.Sortable (bs.map enc)) (hL : bs.length ≤ sizeLine)
    (hu : ∀ b, b ∈ bs → A.units + 2 + (enc b).depth < cLine) (h : ∀ out, out.length = bs.length → PySem.W.EachIs R out (bs.mergeSort (PySem.W.dataLe false enc)) → Q (.ref (s.heap.objs.size + 1)) { s with heap := sortedAll s.heap vs (List.toArray out) }) :
    wpAny (model prog w) A (call (.builtin "sorted") [.ref l]) Q E s := by
  rcases hl with hl | hl
  · exact PySem.W.sorted_data hl e er hal hk hL hu h
  · have er' : PySem.W.EachIs (fun v b => ∃ as, Reads (PySem.W.sortingHeap (PySem.W.copyHeap s.heap vs) (s.heap.objs.size + 1) vs) v (enc b) as) vs bs := er.mono fun _ _ ⟨as, r⟩ => ⟨as, PyProof.Rows.Reads.keeps (fun _ _ => PySem.W.sorting_copy_old) r⟩
    refine sortedT_of_sort hl (by rw [e.length]; exact hL) fun E' => PySem.W.list_sort_vals (s := { s with heap := PySem.W.copyHeap s.heap vs }) (PySem.W.copyHeap_at s.heap vs)
      (PySem.W.SortsAt.data (s := { s with heap := PySem.W.sortingHeap (PySem.W.copyHeap s.heap vs) (s.heap.objs.size + 1) vs }) (PySem.W.each_map (R := fun v d => ∃ as, Reads (PySem.W.sortingHeap (PySem.W.copyHeap s.heap vs) (s.heap.objs.size + 1) vs) v d as) enc er') hal hk (PySem.W.bound_map hu)) (by rw [e.length]; exact hL)
      ⟨rfl, h _ (by rw [PySem.W.sortVals_length false rfl]; exact e.length) (PySem.W.sortVals_data false e er' hal)⟩
end
def rSortA (K : PySem.W.Frag) : RC := fun vs H Q => ∃ (a : Addr) (xs : List V) (ds : List D) (R : V → D → Prop), vs = [V.ref a] ∧ Seq2 K H a xs ∧ PySem.W.EachIs R xs ds ∧ DpAll K H xs ds ∧ PySem.W.AllAlike ds ∧ PySem.W.Sortable ds ∧ PyData.depthAll ds ≤ 63 ∧
  ∀ p ys, H p = none → PySem.W.EachIs R ys (ds.mergeSort (PySem.W.dataLe false id)) → Q (.ref p) (upd H p (.lst ys))
theorem each_vals {R : V → D → Prop} : ∀ {xs : List V} {us : List Value} {ds : List D}, Vals xs us → PySem.W.EachIs R xs ds → PySem.W.EachIs (fun u d => ∃ v, RelV v u ∧ R v d) us ds
  | _, _, _, .nil, .nil => .nil
  | _, _, _, .cons r t, .cons q p => .cons ⟨_, r, q⟩ (each_vals t p)
theorem vals_each {R : V → D → Prop} : ∀ {us : List Value} {ds : List D}, PySem.W.EachIs (fun u d => ∃ v, RelV v u ∧ R v d) us ds → ∃ xs, Vals xs us ∧ PySem.W.EachIs R xs ds
  | _, _, .nil => ⟨[], .nil, .nil⟩
  | _, _, .cons ⟨v, r, q⟩ t => by
    obtain ⟨xs, h1, h2⟩ := vals_each t
    exact ⟨v :: xs, .cons r h1, .cons q h2⟩
section
variable {X : Cx}
theorem cr_sortA (hu : X.A.units + 66 < cLine) : CallR X (.builtin "sorted") (rSortA X.K) := by
  intro pins s σ H vs us Q I r h
  obtain ⟨a, xs, ds, R, rfl, hs, he, hd, ha, hk, hz, q⟩ := h
  obtain ⟨its, rv, hl, hL⟩ := seq2_at I hs
  rw [Vals.ref1 r]
  obtain ⟨as, hr⟩ := Dp.readsAll I ds xs its hd rv
  have e2 := each_vals rv he
  have er : PySem.W.EachIs (fun v b => ∃ as, Reads s.heap v (id b) as) its ds := PySem.W.readsAll_each id (as := as) (by rw [List.map_id]; exact hr)
  refine sorted_both (enc := id) hl e2 er (by rw [List.map_id]; exact ha) (by rw [List.map_id]; exact hk) (by rw [← he.length]; exact hL) (fun b hb => ?_) fun out hlen h2 => ?_
  · have := PyData.depth_le_depthAll ds b hb
    show X.A.units + 2 + b.depth < cLine
    omega
  · obtain ⟨ys, h3, h4⟩ := vals_each h2
    obtain ⟨ep, he'⟩ := PyProof.Rows.sortedAll_at s.heap its out.toArray
    have hly : ys.length ≤ sizeLine := by rw [h3.length, hlen, ← he.length]; exact hL
    exact ⟨.ref _, upd H (s.heap.objs.size + 1) (.lst ys), I.laid (t' := s.toks) (fun _ _ => PyProof.Rows.sortedAll_old) (Nat.le_succ _) ⟨hly, out, ep, h3, he'⟩, rfl, q _ _ (I.hok.fresh (Nat.le_succ _)) h4⟩
end
def notTup : D → Bool
  | .none => false
  | .tuple _ => false
  | _ => true
def fullTup : D → Bool
  | .tuple (_ :: _) => true
  | _ => false
def okSort (ds : List D) : Bool := (ds.all fun x => ds.all fun y => PySem.W.alike x y) && (ds.all notTup || ds.all fullTup)
theorem okSort_all {ds : List D} (h : okSort ds = true) : PySem.W.AllAlike ds ∧ PySem.W.Sortable ds := by
  unfold okSort at h
  rw [Bool.and_eq_true, Bool.or_eq_true] at h
  refine ⟨fun x hx y hy => List.all_eq_true.mp (List.all_eq_true.mp h.1 x hx) y hy, ?_⟩
  rcases h.2 with h | h
  · refine .inr fun d hd => ?_
    have := List.all_eq_true.mp h d hd
    cases d <;> simp_all [notTup]
  · refine .inl fun d hd => ?_
    have := List.all_eq_true.mp h d hd
    cases d with
    | tuple ds =>
      cases ds with
      | nil => cases this
      | cons x r => exact ⟨x, r, rfl⟩
    | _ => cases this
theorem each_repA {K : PySem.W.Frag} {pa : Addr} {Z : Hp} : ∀ {vs : List V} {ds : List D}, RepA K pa Z vs ds → PySem.W.EachIs (Rep K pa Z) vs ds
  | _, _, .nil => .nil
  | _, _, .cons r t => .cons r (each_repA t)
theorem repA_each {K : PySem.W.Frag} {pa : Addr} {Z : Hp} : ∀ {vs : List V} {ds : List D}, PySem.W.EachIs (Rep K pa Z) vs ds → RepA K pa Z vs ds
  | _, _, .nil => .nil
  | _, _, .cons r t => .cons r (repA_each t)
def sortD (ds : List D) : List D := ds.mergeSort (PySem.W.dataLe false id)
def gSort : List D → Option (List D)
  | [d] => (itemsOf d).bind fun ds => if okSort ds = true ∧ SeqAt.shaped d = true then some (sortD ds) else none
  | _ => none
theorem c_sort {K : PySem.W.Frag} : CallL K (rSortA K) gSort := by
  intro pa xs ds zs Z H Q zh r hg q
  unfold gSort at hg
  split at hg
  · rename_i d
    obtain ⟨es, h1, h2⟩ := Option.bind_eq_some_iff.mp hg
    split at h2
    · rename_i hok
      cases h2
      obtain ⟨x, rfl, rx⟩ := ha1 r
      obtain ⟨a, vs, rfl, hs, ra⟩ := seq2_of zh rx h1
      obtain ⟨c1, c2⟩ := shaped_seq h1 hok.2
      obtain ⟨k1, k2⟩ := okSort_all hok.1
      exact ⟨a, vs, es, Rep K pa Z, rfl, hs, each_repA ra, Rep.dp.goA _ c1 ra zh, k1, k2, c2, fun p ys hp he => q p ys Z _ (Grow.new0 zh hp) hp upd_same (free_sub zh hp) (repA_each he)⟩
    · cases h2
  · cases hg

/-! ### list(range(..)) -/
theorem RepA.rg {K : PySem.W.Frag} {pa : Addr} {Z : Hp} {a b : Int} : RepA K pa Z (rgV a b) (rangeD a b) := by
  have e : rgV a b = ((List.range (b - a).toNat).map fun i => a + (i : Nat)).map V.int := by unfold rgV; rw [List.map_map]; rfl
  have e2 : rangeD a b = ((List.range (b - a).toNat).map fun i => a + (i : Nat)).map PyData.int := by unfold rangeD; rw [List.map_map]; rfl
  rw [e, e2]
  exact RepA.ints _
def okRg (m n : Int) : Bool := decide (-(2 ^ 62) ≤ m ∧ m < 2 ^ 62 ∧ -(2 ^ 62) ≤ n ∧ n < 2 ^ 62 ∧ (n - m).toNat ≤ 2 ^ 24)
theorem okRg_ok {m n : Int} (h : okRg m n = true) : RgOk m n := by
  have h2 : -(2 ^ 62) ≤ m ∧ m < 2 ^ 62 ∧ -(2 ^ 62) ≤ n ∧ n < 2 ^ 62 ∧ (n - m).toNat ≤ 2 ^ 24 := of_decide_eq_true h
  exact h2
def eLR1 (f : B D) : B (List D) := do
  let d ← f
  lift (match d with
    | .int n => if okRg 0 n then some (rangeD 0 n) else none
    | _ => none)
def eLR2 (fa fb : B D) : B (List D) := do
  let d ← fa
  let e ← fb
  lift (match d, e with
    | .int m, .int n => if okRg m n then some (rangeD m n) else none
    | _, _ => none)
section
variable {X : Cx} {a b : Expr} {fa fb : B D} {p p2 pos pos2 : Pos}
theorem fo_lr1 (hc : X.calm = true) (hgl : Gl X "list") (hml : X.mg "list" = none) (hg : Gl X "range") (hm : X.mg "range" = none) (ha : FE X a fa) (na : starEach [.Call (.Name "range" p2) [a] [] pos2] X.env = (false, eval (.Call (.Name "range" p2) [a] [] pos2) X.env) :: starEach [] X.env := by rfl)
    (nb : starEach [a] X.env = (false, eval a X.env) :: starEach [] X.env := by rfl) : FO X (.Call (.Name "list" p) [.Call (.Name "range" p2) [a] [] pos2] [] pos) (eLR1 fa) := by
  refine ⟨fun pa B0 W tk => ⟨fun pins s σ H Q I ⟨Z, st, k, w⟩ => (pe_listRg hc hgl hml (prg_1 hg hm (ha.pe pa B0 W tk) nb) na).run pins s σ H Q I ?_⟩⟩
  refine ⟨Z, st, k, (End.bind w).imp fun d s1 Z1 H1 k1 _ w1 v rv => ?_⟩
  obtain ⟨ds, hd, w2⟩ := End.lift1 w1
  cases d with
  | int n =>
    cases rv
    simp only at hd
    split at hd
    · rename_i hn
      cases hd
      refine ⟨n, rfl, okRg_ok hn, fun q hq => ?_⟩
      have g := Grow.new0 k1.sub (o := .lst (rgV 0 n)) hq
      exact w2 _ _ (k1.grow g) (k1.ext g) q _ upd_same (k1.fresh hq) RepA.rg
    · cases hd
  | _ => cases hd
theorem fo_lr2 (hc : X.calm = true) (hgl : Gl X "list") (hml : X.mg "list" = none) (hg : Gl X "range") (hm : X.mg "range" = none) (ha : FE X a fa) (hb : FE X b fb) (na : starEach [.Call (.Name "range" p2) [a, b] [] pos2] X.env = (false, eval (.Call (.Name "range" p2) [a, b] [] pos2) X.env) :: starEach [] X.env := by rfl)
    (nb : starEach [a, b] X.env = (false, eval a X.env) :: starEach [b] X.env := by rfl) (nc : starEach [b] X.env = (false, eval b X.env) :: starEach [] X.env := by rfl) (hp : (backTo pos2 (starEach [b] X.env)).any (·.1) = false := by rfl) : FO X (.Call (.Name "list" p) [.Call (.Name "range" p2) [a, b] [] pos2] [] pos) (eLR2 fa fb) := by
  refine ⟨fun pa B0 W tk => ⟨fun pins s σ H Q I ⟨Z, st, k, w⟩ => (pe_listRg hc hgl hml (prg_2 hg hm (ha.pe pa B0 W tk) (hb.pe pa B0 W tk) nb nc hp) na).run pins s σ H Q I ?_⟩⟩
  refine ⟨Z, st, k, (End.bind w).imp fun d s1 Z1 H1 k1 _ w1 v rv => ⟨Z1, s1, k1, (End.bind w1).imp fun e s2 Z2 H2 k2 _ w2 u ru => ?_⟩⟩
  obtain ⟨ds, hd, w3⟩ := End.lift1 w2
  cases d with
  | int m =>
    cases e with
    | int n =>
      cases rv
      cases ru
      simp only at hd
      split at hd
      · rename_i hn
        cases hd
        refine ⟨m, n, rfl, rfl, okRg_ok hn, fun q hq => ?_⟩
        have g := Grow.new0 k2.sub (o := .lst (rgV m n)) hq
        exact w3 _ _ (k2.grow g) (k2.ext g) q _ upd_same (k2.fresh hq) RepA.rg
      · cases hd
    | _ => cases hd
  | _ => cases hd
end

/-! ### divmod: a tuple for the turn -/
structure FET (X : Cx) (e : Expr) (f : B D) : Prop where
  pe : ∀ pa B0 W, Takes X W → PE X e (fun σ H Q => ∃ Z s, Ok X.K pa B0 Z H σ s ∧ End X.K X.mg pa B0 W σ Z (f s) fun d _ Z' H' => ∀ v, RepT X.K pa Z' H' v d → Q v H')
instance (i j : Int) : Decidable (L2.CDiv i j) := by unfold L2.CDiv; infer_instance
def eDm (fa fb : B D) : B D := do
  let d ← fa
  let e ← fb
  lift (match d, e with
    | .int i, .int j => if L2.CDiv i j then some (.tuple [.int (i / j), .int (i % j)]) else none
    | _, _ => none)
section
variable {X : Cx} {a b tg e : Expr} {f fa fb : B D} {p pos : Pos} {ix : List Nat} {asg : Asg}
theorem fet_dm (hg : Gl X "divmod") (hm : X.mg "divmod" = none) (ha : FE X a fa) (hb : FE X b fb) (hs : starEach [a, b] X.env = (false, eval a X.env) :: starEach [b] X.env := by rfl) (hs2 : starEach [b] X.env = (false, eval b X.env) :: starEach [] X.env := by rfl) (hpl : (backTo pos (starEach [b] X.env)).any (·.1) = false := by rfl) :
    FET X (.Call (.Name "divmod" p) [a, b] [] pos) (eDm fa fb) := by
  refine ⟨fun pa B0 W tk => ⟨fun pins s σ H Q I ⟨Z, st, k, w⟩ => (pe_callB call_divmod hg hm boot_divmod (pa_cons (ha.pe pa B0 W tk) (pa_cons (hb.pe pa B0 W tk) pa_nil hs2) hs) (by decide) (by decide) hs hpl).run pins s σ H Q I ?_⟩⟩
  refine ⟨Z, st, k, (End.bind w).imp fun d s1 Z1 H1 k1 _ w1 v rv => ⟨Z1, s1, k1, (End.bind w1).imp fun e s2 Z2 H2 k2 _ w2 u ru => ?_⟩⟩
  obtain ⟨z, hz, w3⟩ := End.lift1 w2
  cases d with
  | int i =>
    cases e with
    | int j =>
      cases rv
      cases ru
      simp only at hz
      split at hz
      · rename_i hc
        cases hz
        refine ⟨i, j, rfl, hc, fun q hq => ?_⟩
        have g := Grow.new0 k2.sub (o := .tup [.int (i / j), .int (i % j)]) hq
        exact w3 _ _ (k2.grow g) (k2.ext g) _ (.inr ⟨q, _, _, rfl, rfl, .inl (.inl upd_same), .cons (.int _) (.cons (.int _) .nil)⟩)
      · cases hz
    | _ => cases hz
  | _ => cases hz
theorem fs_asgT (he : FET X e f) (hg : FG X tg true ix asg) (hs : swapsWithSole [tg] e pos.line X.env = pure false := by rfl) (hw : swappedStores [tg] e X.env = pure none := by rfl) (h1 : (assignEach [tg] X.env).map (·.2) = [assign tg X.env] := by rfl) : FS X (.Assign [tg] e pos) (sAsg f asg) := by
  refine ⟨fun pa B0 W tk => ⟨fun pins s σ H En I ⟨Z, st, k, w⟩ => (ps_asg (he.pe pa B0 W tk) (hg.pg pa B0) hs hw h1).run pins s σ H En I ?_⟩⟩
  refine ⟨Z, st, k, (EndS.ofE w).imp fun d s1 Z1 H1 k1 _ w1 v rv => ⟨Z1, s1, d, k1, rv, ?_⟩⟩
  cases e : asg d s1 with
  | ok a s2 =>
    rw [e] at w1
    exact fun σ' H' Z' k' z' _ _ => w1 σ' H' Z' k' z'
  | ex e' s2 => rw [e] at w1; exact w1
  | bad => rw [e] at w1; exact w1
end
end FL
set_option maxHeartbeats 1000000
/-! FL12: a, b = x, y; defs that return a list of their own; keywords; targets in own lists. -/
namespace FL
open PySem PySem.Spec PyProof.Rows L2

/-! ### another base -/
section
variable {K : PySem.W.Frag} {mg : Str → Option Value} {pa : Addr} {B0 : Hp} {W : WX} {Z H : Hp} {σ : VSt} {s : S}
theorem ZExt.low {p : Addr} {o : HO} (h : B0 p = none) {Z1 Z2 : Hp} (z : ZExt (upd B0 p o) Z1 Z2) : ZExt B0 Z1 Z2 := ⟨z.zz, fun b x e => z.old b x (by
  rw [upd_ne (fun q => by rw [q, h] at e; cases e)]
  exact e)⟩
theorem Ok.low {p : Addr} {o : HO} (h : B0 p = none) (hp : s.pool = none ∨ p ≠ pa) (k : Ok K pa (upd B0 p o) Z H σ s) : Ok K pa B0 Z H σ s := by
  refine k.rebase (fun b x c e => k.base b x c ?_) (fun i xs q e1 e2 => ?_) fun ps e => ?_
  · rw [upd_ne (fun q => by rw [q, h] at e; cases e)]
    exact e
  · obtain ⟨q', vs, g1, g2, g3, g4, g5⟩ := k.own i xs e1
    rw [e2] at g1
    cases g1
    by_cases hq : q = p
    · rw [hq, upd_same] at g4; cases g4
    · rw [upd_ne hq] at g4; exact g4
  · obtain ⟨x, hx⟩ := (k.pool ps e).2.2
    rcases hp with hp | hp
    · rw [hp] at e; cases e
    · exact ⟨x, by rw [upd_ne (Ne.symm hp)] at hx; exact hx⟩
theorem Ok.high {p : Addr} {o : HO} (k : Ok K pa B0 Z H σ s) (hH : H p = some o) (f : Fresh K pa B0 Z σ s p) : Ok K pa (upd B0 p o) Z H σ s := by
  refine k.rebase (fun b x c e => ?_) (fun i xs q e1 e2 => ?_) fun ps e => ?_
  · by_cases hb : b = p
    · subst hb
      rw [upd_same] at e
      cases e
      exact hH
    · rw [upd_ne hb] at e
      exact k.base b x c e
  · have hq : q ≠ p := fun z => f.own i xs e1 (z ▸ e2)
    rw [upd_ne hq]
    exact (k.ownH e1 e2).choose_spec.2.2.1
  · obtain ⟨x, hx⟩ := (k.pool ps e).2.2
    exact ⟨x, by rw [upd_ne (Ne.symm (f.notPool k e))]; exact hx⟩
/-- what holds over the base holds over a bigger one -/
theorem End.high {α : Type} {r : R S α} {P : α → S → Hp → Hp → Prop} {p : Addr} {o : HO} (h0 : B0 p = none) (hp : p ≠ pa) (h : End K mg pa B0 W σ Z r P) : End K mg pa (upd B0 p o) W σ Z r P := by
  cases r with
  | ok a s => exact fun H' Z' k z => h H' Z' (k.low h0 (.inr hp)) (z.low h0)
  | ex e s => exact fun c d H' Z' k z => h c d H' Z' (k.low h0 (.inr hp)) (z.low h0)
  | bad => exact h
end

/-! ### a row of values and lists of one's own -/
inductive RepM (K : PySem.W.Frag) (pa : Addr) (B0 Z H : Hp) (σ : VSt) (s : S) : List V → List Sl → Prop
  | nil : RepM K pa B0 Z H σ s [] []
  | v {v : V} {vs : List V} {d : D} {ds : List Sl} : Rep K pa Z v d → RepM K pa B0 Z H σ s vs ds → RepM K pa B0 Z H σ s (v :: vs) (.v d :: ds)
  | l {p : Addr} {ws : List V} {vs : List V} {xs : List D} {ds : List Sl} : H p = some (.lst ws) → Fresh K pa B0 Z σ s p → RepA K pa Z ws xs → (∀ (i : Nat) (ys : List D), ds[i]? = some (.l ys) → vs[i]? ≠ some (.ref p)) → RepM K pa B0 Z H σ s vs ds → RepM K pa B0 Z H σ s (.ref p :: vs) (.l xs :: ds)
structure FM (X : Cx) (es : List Expr) (f : B (List Sl)) : Prop where
  pa : ∀ pa B0 W, Takes X W → PA X es (fun σ H Q => ∃ Z s, Ok X.K pa B0 Z H σ s ∧ End X.K X.mg pa B0 W σ Z (f s) fun ds s' Z' H' => ∀ vs, RepM X.K pa B0 Z' H' σ s' vs ds → Q vs H')
def mNil : B (List Sl) := fun s => .ok [] s
def mV (f : B D) (r : B (List Sl)) : B (List Sl) := do
  let x ← f
  let xs ← r
  pure (.v x :: xs)
def mO (f : B (List D)) (r : B (List Sl)) : B (List Sl) := fun s => (f s).bind fun xs s1 => match r s1 with
  | .ok ds s2 => if s2.pool.isSome = s1.pool.isSome then .ok (.l xs :: ds) s2 else .bad
  | _ => .bad
section
variable {K : PySem.W.Frag} {pa : Addr} {B0 Z Z' H : Hp} {σ : VSt} {s : S}
theorem RepM.low {p : Addr} {o : HO} (h : B0 p = none) : ∀ {vs : List V} {ds : List Sl}, RepM K pa (upd B0 p o) Z H σ s vs ds → RepM K pa B0 Z H σ s vs ds ∧ ∀ (i : Nat) (ys : List D), ds[i]? = some (.l ys) → vs[i]? ≠ some (.ref p)
  | _, _, .nil => ⟨.nil, fun i ys e => by cases e⟩
  | _, _, .v r t => by
    obtain ⟨h1, h2⟩ := RepM.low h t
    refine ⟨.v r h1, fun i ys e => ?_⟩
    cases i with
    | zero => cases e
    | succ i => exact h2 i ys (by simpa using e)
  | _, _, .l (p := q) hq f r g t => by
    obtain ⟨h1, h2⟩ := RepM.low h t
    have hqp : q ≠ p := fun z => by
      have := f.b
      rw [z, upd_same] at this
      cases this
    have fb := f.b
    rw [upd_ne hqp] at fb
    refine ⟨.l hq ⟨f.z, fb, f.own⟩ r g h1, fun i ys e => ?_⟩
    cases i with
    | zero => exact fun z => by cases z; exact hqp rfl
    | succ i => exact h2 i ys (by simpa using e)
/-- a name gets the first of the row -/
theorem Ok.setM {v : V} {vs : List V} {a : Sl} {ds : List Sl} (k : Ok K pa B0 Z H σ s) (i : Nat) (r : RepM K pa B0 Z H σ s (v :: vs) (a :: ds)) :
    Ok K pa B0 Z H (σ.set i (some v)) { s with env := s.env.set i a } ∧ RepM K pa B0 Z H (σ.set i (some v)) { s with env := s.env.set i a } vs ds := by
  have keep : ∀ {us : List V} {es : List Sl}, RepM K pa B0 Z H σ s us es → (∀ (j : Nat) (ys : List D) (q : Addr), es[j]? = some (.l ys) → us[j]? = some (.ref q) → ∀ xs, a = .l xs → v ≠ .ref q) → RepM K pa B0 Z H (σ.set i (some v)) { s with env := s.env.set i a } us es := by
    intro us es t
    induction t with
    | nil => exact fun _ => .nil
    | v r t ih => exact fun g => .v r (ih fun j ys q e1 e2 => g (j + 1) ys q (by simpa using e1) (by simpa using e2))
    | @l q ws vs' xs' ds' hq f ra gg t ih =>
      refine fun g => .l hq ⟨f.z, f.b, fun j ys e z => ?_⟩ ra gg (ih fun j ys q' e1 e2 => g (j + 1) ys q' (by simpa using e1) (by simpa using e2))
      have e : (s.env.set i a)[j]? = some (.l ys) := e
      by_cases hj : i = j
      · subst hj
        have ea := nth_set_self e
        have hi : i < s.env.length := by
          have := (List.getElem?_eq_some_iff.mp e).1
          simpa using this
        rw [List.getElem?_set_self (by rw [k.len]; exact hi)] at z
        have z' : v = .ref q := Option.some.inj (Option.some.inj z)
        exact g 0 xs' q rfl rfl ys ea.symm z'
      · rw [List.getElem?_set_ne hj] at e z
        exact f.own j ys e z
  cases r with
  | v r t => exact ⟨k.setV i r, keep t fun _ _ _ _ _ xs e => by cases e⟩
  | l hp f ra g t =>
    refine ⟨k.setO i hp f ra, keep t fun j ys q e1 e2 xs _ z => ?_⟩
    cases z
    exact g j ys e1 e2
end
section
variable {X : Cx} {e : Expr} {es : List Expr} {f : B D} {fl : B (List D)} {fr : B (List Sl)}
theorem fm_nil : FM X [] mNil := ⟨fun pa B0 W tk => ⟨fun pos pins s σ H Q I ⟨Z, st, k, w⟩ => pa_nil.run pos pins s σ H Q I (End.pure w k [] .nil)⟩⟩
theorem fm_v (ha : FE X e f) (hr : FM X es fr) (hs : starEach (e :: es) X.env = (false, eval e X.env) :: starEach es X.env := by rfl) : FM X (e :: es) (mV f fr) := by
  refine ⟨fun pa B0 W tk => ⟨fun pos pins s σ H Q I ⟨Z, st, k, w⟩ => (pa_cons (ha.pe pa B0 W tk) (hr.pa pa B0 W tk) hs).run pos pins s σ H Q I ?_⟩⟩
  refine ⟨Z, st, k, (End.bind w).imp fun d s1 Z1 H1 k1 _ w1 v rv => ⟨Z1, s1, k1, (End.bind w1).imp fun ds s2 Z2 H2 k2 z2 w2 vs rvs => End.pure w2 k2 _ (.v (rv.mono z2.zz) rvs)⟩⟩
theorem fm_o (ha : FO X e fl) (hr : FM X es fr) (hs : starEach (e :: es) X.env = (false, eval e X.env) :: starEach es X.env := by rfl) : FM X (e :: es) (mO fl fr) := by
  refine ⟨fun pa B0 W tk => ⟨fun pos pins s σ H Q I ⟨Z, st, k, w⟩ => (pa_cons (te := tO X.K X.mg pa B0 W fl) (t := fun σ H Q => ∃ B1 Z s, Ok X.K pa B1 Z H σ s ∧ End X.K X.mg pa B1 W σ Z (fr s) fun ds s' Z' H' => ∀ vs, RepM X.K pa B1 Z' H' σ s' vs ds → Q vs H') (ha.pe pa B0 W tk) ?_ hs).run pos pins s σ H Q I ?_⟩⟩
  · exact ⟨fun pos pins s σ H Q I ⟨B1, h⟩ => (hr.pa pa B1 W tk).run pos pins s σ H Q I h⟩
  refine ⟨Z, st, k, (End.bind (show End X.K X.mg pa B0 W σ Z ((fl st).bind fun xs s1 => match fr s1 with
    | .ok ds s2 => if s2.pool.isSome = s1.pool.isSome then .ok (.l xs :: ds) s2 else .bad
    | _ => .bad) _ from w)).imp fun xs s1 Z1 H1 k1 _ w1 p ws hp f1 ra => ⟨upd B0 p (.lst ws), Z1, s1, k1.high hp f1, ?_⟩⟩
  cases e2 : fr s1 with
  | ex _ _ => rw [e2] at w1; exact False.elim w1
  | bad => rw [e2] at w1; exact False.elim w1
  | ok ds s2 =>
    rw [e2] at w1
    have w1 : End X.K X.mg pa B0 W σ Z1 (if s2.pool.isSome = s1.pool.isSome then .ok (.l xs :: ds) s2 else .bad) (fun ds s' Z' H' => ∀ vs, RepM X.K pa B0 Z' H' σ s' vs ds → Q vs H') := w1
    split at w1
    · rename_i hpl
      have hpool : s2.pool = none ∨ p ≠ pa := by
        cases e3 : s1.pool with
        | some ps => exact .inr (f1.notPool k1 e3)
        | none =>
          rw [e3] at hpl
          refine .inl ?_
          cases e4 : s2.pool with
          | none => rfl
          | some _ => rw [e4] at hpl; cases hpl
      intro H2 Z2 k2 z2 vs rvs
      obtain ⟨r1, r2⟩ := rvs.low f1.b
      refine w1 H2 Z2 (k2.low f1.b hpool) (z2.low f1.b) _ (.l (k2.base p _ (by
        rcases hpool with h | h
        · exact .inr h
        · exact .inl h) upd_same) ⟨(z2.old p _ upd_same).trans f1.z, f1.b, fun i ys e z => ?_⟩ (ra.mono z2.zz) r2 r1)
      obtain ⟨q, us, g1, _, _, g4, _⟩ := k2.own i ys e
      rw [z] at g1
      cases g1
      rw [upd_same] at g4
      cases g4
    · exact False.elim w1
/-- the names get the row -/
def setAll (env : List Sl) : List Nat → List Sl → List Sl
  | i :: is, a :: as => setAll (env.set i a) is as
  | _, _ => env
def sPar (is : List Nat) (f : B (List Sl)) : B Fl := fun s => (f s).bind fun ds s1 => if ds.length = is.length then .ok .nx { s1 with env := setAll s1.env is ds } else .bad
theorem fs_par (i j : Nat) {x y : Str} {a b : Expr} {px py pt pos : Pos} {kt k2 pt2} (hc : X.calm = true) (hN : X.N.Nodup) (ha : FM X [a, b] fr) (hi : X.N[i]? = some x := by rfl) (hj : X.N[j]? = some y := by rfl) (hij : i ≠ j := by decide)
    (hx : X.env.scope.names.lookup x = some .local := by rfl) (hy : X.env.scope.names.lookup y = some .local := by rfl)
    (hw : swappedStores [.Tuple [.Name x px, .Name y py] kt pt] (.Tuple [a, b] k2 pt2) X.env = pure (some [x, y]) := by rfl)
    (hs : swapsWithSole [.Tuple [.Name x px, .Name y py] kt pt] (.Tuple [a, b] k2 pt2) pos.line X.env = pure false := by rfl) :
    FS X (.Assign [.Tuple [.Name x px, .Name y py] kt pt] (.Tuple [a, b] k2 pt2) pos) (sPar [i, j] fr) := by
  refine ⟨fun pa B0 W tk => ⟨fun pins s σ H En I ⟨Z, st, k, w⟩ => (ps_par hc hN hi hj hij hx hy (ha.pa pa B0 W tk) hw hs).run pins s σ H En I ?_⟩⟩
  refine ⟨Z, st, k, (EndS.ofE w).imp fun ds s1 Z1 H1 k1 _ w1 vs rvs => ?_⟩
  have go : ∀ {v u : V} {a b : Sl}, RepM X.K pa B0 Z1 H1 σ s1 [v, u] [a, b] → EndS X.K X.mg pa B0 W Z1 (.ok .nx { s1 with env := (s1.env.set i a).set j b }) En → En.nx ((σ.set i (some v)).set j (some u)) H1 := fun {v u a b} r w => by
    obtain ⟨q1, q2⟩ := k1.setM i r
    obtain ⟨q3, _⟩ := q1.setM j q2
    exact EndS.nx w q3
  match ds, vs, rvs, w1 with
  | [a, b], [v, u], r, w1 => exact ⟨v, u, rfl, go r w1⟩
  | [a, b], [], r, _ => cases r
  | [a, b], [_], r, _ => cases r with
    | v _ t => cases t
    | l _ _ _ _ t => cases t
  | [a, b], _ :: _ :: _ :: _, r, _ => cases r with
    | v _ t => cases t with
      | v _ t => cases t
      | l _ _ _ _ t => cases t
    | l _ _ _ _ t => cases t with
      | v _ t => cases t
      | l _ _ _ _ t => cases t
  | [], _, _, w1 => exact False.elim w1
  | [_], _, _, w1 => exact False.elim w1
  | _ :: _ :: _ :: _, _, _, w1 =>
    rw [if_neg (fun h => by simp only [List.length_cons, List.length_nil] at h; omega)] at w1
    exact False.elim w1
theorem fs_par3 (i j l : Nat) {x y z : Str} {a b c : Expr} {px py pz pt pos : Pos} {kt k2 pt2} (hc : X.calm = true) (hN : X.N.Nodup) (ha : FM X [a, b, c] fr) (hi : X.N[i]? = some x := by rfl) (hj : X.N[j]? = some y := by rfl) (hl : X.N[l]? = some z := by rfl) (hij : i ≠ j := by decide) (hil : i ≠ l := by decide) (hjl : j ≠ l := by decide)
    (hx : X.env.scope.names.lookup x = some .local := by rfl) (hy : X.env.scope.names.lookup y = some .local := by rfl) (hz : X.env.scope.names.lookup z = some .local := by rfl)
    (hw : swappedStores [.Tuple [.Name x px, .Name y py, .Name z pz] kt pt] (.Tuple [a, b, c] k2 pt2) X.env = pure (some [x, y, z]) := by rfl)
    (hs : swapsWithSole [.Tuple [.Name x px, .Name y py, .Name z pz] kt pt] (.Tuple [a, b, c] k2 pt2) pos.line X.env = pure false := by rfl) :
    FS X (.Assign [.Tuple [.Name x px, .Name y py, .Name z pz] kt pt] (.Tuple [a, b, c] k2 pt2) pos) (sPar [i, j, l] fr) := by
  refine ⟨fun pa B0 W tk => ⟨fun pins s σ H En I ⟨Z, st, k, w⟩ => (ps_par3 hc hN hi hj hl hij hil hjl hx hy hz (ha.pa pa B0 W tk) hw hs).run pins s σ H En I ?_⟩⟩
  refine ⟨Z, st, k, (EndS.ofE w).imp fun ds s1 Z1 H1 k1 _ w1 vs rvs => ?_⟩
  have go : ∀ {v u t : V} {a b c : Sl}, RepM X.K pa B0 Z1 H1 σ s1 [v, u, t] [a, b, c] → EndS X.K X.mg pa B0 W Z1 (.ok .nx { s1 with env := ((s1.env.set i a).set j b).set l c }) En → En.nx (((σ.set i (some v)).set j (some u)).set l (some t)) H1 := fun {v u t a b c} r w => by
    obtain ⟨q1, q2⟩ := k1.setM i r
    obtain ⟨q3, q4⟩ := q1.setM j q2
    obtain ⟨q5, _⟩ := q3.setM l q4
    exact EndS.nx w q5
  have len : ∀ {vs : List V} {ds : List Sl}, RepM X.K pa B0 Z1 H1 σ s1 vs ds → vs.length = ds.length := fun {vs ds} r => by
    induction r with
    | nil => rfl
    | v _ _ ih => simp [ih]
    | l _ _ _ _ _ ih => simp [ih]
  have hl := len rvs
  match ds, w1, rvs, hl with
  | [a, b, c], w1, r, hl =>
    match vs, r, hl with
    | [v, u, t], r, _ => exact ⟨v, u, t, rfl, go r w1⟩
  | [], w1, _, _ => exact False.elim w1
  | [_], w1, _, _ => exact False.elim w1
  | [_, _], w1, _, _ => exact False.elim w1
  | _ :: _ :: _ :: _ :: _, w1, _, _ =>
    rw [if_neg (fun h => by simp only [List.length_cons, List.length_nil] at h; omega)] at w1
    exact False.elim w1
end

/-! ### a target in a list of one's own -/
def aSub (i : Nat) (fi : B D) : Asg := fun d s => match ownAt i s with
  | none => .bad
  | some _ => match fi s with
    | .ok (.int n) s1 => match ownAt i s1 with
      | some xs => match ixN xs.length n with
        | some m => .ok () (putAt i (xs.set m d) s1)
        | none => .bad
      | none => .bad
    | _ => .bad
section
variable {X : Cx} {idx : Expr} {fi : B D} {x : Str} {npos apos : Pos}
theorem fg_sub (i : Nat) (hi : FE X idx fi) (hN : X.N[i]? = some x := by rfl) (hv : Vis X.env.scope x := by first | exact Or.inl rfl | exact Or.inr (Or.inl rfl) | exact Or.inr (Or.inr rfl)) (hd : (x == ("__debug__" : Str)) = false := by decide) (hcd : (x == ("__classdict__" : Str)) = false := by decide)
    (hasg : ∀ v, assign (.Subscript (.Name x npos) idx apos) X.env v = (do
      let ov ← holding [v] (eval (.Name x npos) X.env)
      let iv ← holding [v, ov] (eval idx X.env)
      standAt apos
      holding [v, ov, iv] (setItem ov iv v)
      release [v, ov, iv] []) := by intro _; rfl) : FG X (.Subscript (.Name x npos) idx apos) false [] (aSub i fi) := by
  refine ⟨fun pa B0 => ⟨fun pins s σ H v u Q I rv ⟨Z, st, d, k, r, w⟩ => (pg_sub (pe_var hN hv hd hcd) (hi.pe pa B0 WNo takes0) set_list hasg).run pins s σ H v u Q I rv ?_⟩⟩
  have r : Rep X.K pa Z v d := r
  unfold aSub at w
  cases e : ownAt i st with
  | none => rw [e] at w; exact False.elim w
  | some xs =>
    rw [e] at w
    obtain ⟨p, vs, hp, hl, ra⟩ := own_list k e
    refine ⟨.ref p, hp, Z, st, k, ?_⟩
    cases e2 : fi st with
    | ex _ _ => simp only [e2] at w
    | bad => simp only [e2] at w
    | ok j s1 =>
      cases j with
      | int n =>
        simp only [e2] at w
        intro H1 Z1 k1 z1 t rt
        cases rt
        cases e3 : ownAt i s1 with
        | none => rw [e3] at w; exact False.elim w
        | some ys =>
          rw [e3] at w
          cases hm : ixN ys.length n with
          | none => simp only [hm] at w
          | some m =>
            simp only [hm] at w
            obtain ⟨ws, h2, _, _, h5⟩ := k1.ownH (ownAt_some e3) hp
            exact ⟨p, ws, n, m, rfl, rfl, h2, by rw [h5.length]; exact hm, w σ _ Z1 (k1.put (ownAt_some e3) hp (RepA.set (r.mono z1.zz) m h5)) z1 rfl fun _ _ => rfl⟩
      | _ => simp only [e2] at w
end
end FL
set_option maxHeartbeats 1000000
/-! FL13: defs that return a list of their own; keywords; the law's call of its check. -/
namespace FL
open PySem PySem.Spec PyProof.Rows L2

/-! ### bodies that end in a list of their own -/
def EndL (K : PySem.W.Frag) (mg : Str → Option Value) (pa : Addr) (B0 : Hp) (W : WX) (Z : Hp) (r : R S (List D)) (En : Ends) : Prop := match r with
  | .ok ds s' => ∀ p ws (σ' : VSt) H' Z', Ok K pa B0 Z' H' σ' s' → ZExt B0 Z Z' → H' p = some (.lst ws) → Z' p = none → B0 p = none → RepA K pa Z' ws ds → En.rt (.ref p) H'
  | .ex e s' => ∀ cls dx σ' H' Z', Ok K pa B0 Z' H' σ' s' → ZExt B0 Z Z' → ExnRep K mg pa Z' H' cls dx e → W cls dx σ' H'
  | .bad => False
structure FSL (X : Cx) (st : List Stmt) (g : B (List D)) : Prop where
  ps : ∀ pa B0 W, Takes X W → PSs X st (fun En σ H => ∃ Z s, Ok X.K pa B0 Z H σ s ∧ EndL X.K X.mg pa B0 W Z (g s) En)
def sSeqL (g : B Fl) (h : B (List D)) : B (List D) := fun s => (g s).bind fun fl s1 => match fl with
  | .nx => h s1
  | _ => .bad
def sIfL (t : B Bool) (g h : B (List D)) : B (List D) := fun s => (t s).bind fun b s1 => if b then g s1 else h s1
section
variable {K : PySem.W.Frag} {mg : Str → Option Value} {pa : Addr} {B0 : Hp} {W : WX} {Z Z' : Hp}
theorem EndL.mono {r : R S (List D)} {En : Ends} (x : ZExt B0 Z Z') (h : EndL K mg pa B0 W Z r En) : EndL K mg pa B0 W Z' r En := by
  cases r with
  | ok fl s => exact fun p ws σ H' Z'' k z => h p ws σ H' Z'' k (x.trans z)
  | ex e s => exact fun c d σ H' Z'' k z => h c d σ H' Z'' k (x.trans z)
  | bad => exact h
theorem EndL.ofE {α : Type} {r : R S α} {k : α → S → R S (List D)} {σ : VSt} {En : Ends} (h : EndL K mg pa B0 W Z (r.bind k) En) : End K mg pa B0 W σ Z r fun a s1 Z1 _ => EndL K mg pa B0 W Z1 (k a s1) En := by
  cases r with
  | ok a s => exact fun H' Z' ok z => EndL.mono z h
  | ex e s => exact fun c d H' Z' ok z => h c d σ H' Z' ok z
  | bad => exact h
end
section
variable {X : Cx} {st : Stmt} {rest : List Stmt} {g : B Fl} {h h2 : B (List D)} {e c : Expr} {f : B (List D)} {t : B Bool} {pos : Pos} {a b : List Stmt}
theorem fsl_ret (he : FO X e f) : FSL X [.Return (some e) pos] f :=
  ⟨fun pa B0 W tk => pss_one ⟨fun pins s σ H En I ⟨Z, st, k, w⟩ => (ps_ret (he.pe pa B0 W tk)).run pins s σ H En I ⟨Z, st, k, by
    cases q : f st with
    | ok ds s1 =>
      rw [q] at w
      exact fun H' Z' k' z p ws hp fr ra => w p ws σ H' Z' k' z hp fr.z fr.b ra
    | ex x s1 =>
      rw [q] at w
      exact fun c d H' Z' k' z => w c d σ H' Z' k' z
    | bad => rw [q] at w; exact w⟩⟩⟩
theorem fsl_cons (h1 : FS X st g) (h3 : FSL X rest h) : FSL X (st :: rest) (sSeqL g h) := by
  refine ⟨fun pa B0 W tk => ⟨fun pins s σ H En I ⟨Z, st, k, w⟩ => (pss_cons (h1.ps pa B0 W tk) (h3.ps pa B0 W tk)).run pins s σ H En I ⟨Z, st, k, ?_⟩⟩⟩
  unfold sSeqL at w
  cases e : g st with
  | ok fl s1 =>
    rw [e] at w
    cases fl with
    | nx => exact fun σ H' Z' k z => ⟨Z', s1, k, EndL.mono z w⟩
    | bk => exact False.elim w
    | ct => exact False.elim w
    | rt d => exact False.elim w
  | ex x s1 => rw [e] at w; exact w
  | bad => rw [e] at w; exact w
theorem fsl_if (hc : FT X c t) (ha : FSL X a h) (hb : FSL X rest h2) : FSL X (.If c a [] pos :: rest) (sIfL t h h2) := by
  refine ⟨fun pa B0 W tk => ⟨fun pins s σ H En I ⟨Z, st, k, w⟩ => (pss_cons (ps_if (hc.pt pa B0 W tk) (ha.ps pa B0 W tk) pss_nil) (hb.ps pa B0 W tk)).run pins s σ H En I ?_⟩⟩
  refine ⟨Z, st, k, (EndL.ofE w).imp fun b s1 Z1 H1 k1 _ w1 => ?_⟩
  cases b with
  | true =>
    refine iteT ⟨Z1, s1, k1, ?_⟩
    have w1 : EndL X.K X.mg pa B0 W Z1 (h s1) En := w1
    cases q : h s1 with
    | ok ds s2 => rw [q] at w1; exact w1
    | ex x s2 => rw [q] at w1; exact w1
    | bad => rw [q] at w1; exact w1
  | false => exact iteF ⟨Z1, s1, k1, w1⟩
end
abbrev FnL := List D → Option (List Int) → R (Option (List Int)) (List D)
def spL (K : PySem.W.Frag) (mg : Str → Option Value) (F : FnL) : Sp := fun vs H Q E => ∃ pa Z ds pool, Same Z H ∧ RepA K pa Z vs ds ∧ (∀ ps, pool = some ps → H pa = some (.lst (ps.map V.int)) ∧ Z pa = none) ∧ match F ds pool with
  | .ok d p' => ∀ p ws Z' H', FGrow pa p' Z H Z' H' → H p = none → H' p = some (.lst ws) → Z' p = none → RepA K pa Z' ws d → Q (.ref p) H'
  | .ex e p' => ∀ cls dx Z' H', FGrow pa p' Z H Z' H' → ExnRep K mg pa Z' H' cls dx e → E cls dx H'
  | .bad => False
def fnL (np N : Nat) (g : B (List D)) : FnL := fun ds pool => if ds.length = np then match g ⟨ds.map Sl.v ++ List.replicate (N - np) Sl.no, pool⟩ with
    | .ok d s => .ok d s.pool
    | .ex e s => .ex e s.pool
    | .bad => .bad
  else .bad
structure KnownL (P : Program) (w : World) (K : PySem.W.Frag) (mg : Str → Option Value) (base : Heap) (x qual : Str) (st : Stmt) (k : Nat) (ps : List Str) (F : FnL) : Prop where
  ex : ∃ f fd, FnG P w K mg base k f fd ps (spL K mg F) ∧ mg x = some (.ref f) ∧ L2.Fun K x qual st f fd
section
variable {P : Program} {wo : World} {K : PySem.W.Frag} {mg : Str → Option Value} {base : Heap}
theorem spL_len {np N : Nat} {g : B (List D)} {vs : List V} {H : Hp} {Q : VK} {E : XK} (h : spL K mg (fnL np N g) vs H Q E) : vs.length = np := by
  obtain ⟨pa, Z, ds, pool, z, r, hp, q⟩ := h
  rw [r.length]
  by_cases hl : ds.length = np
  · exact hl
  · have e : fnL np N g ds pool = .bad := if_neg hl
    rw [e] at q
    exact False.elim q
theorem known_defL {x qual : Str} {st : Stmt} {f : Addr} {fd : FuncData} {N ps : List Str} {k : Nat} {g : B (List D)} (F : L2.Fun K x qual st f fd) (hm : mg x = some (.ref f)) (Sc : FnScope N ps (defScope st))
    (hb : ∀ (X : Cx), X.prog = P → X.w = wo → X.K = K → X.mg = mg → X.base = base → X.N = N → X.env.scope = defScope st → X.fn = (fun _ => true) → XG X k → FSL X (defBody st) g) : KnownL P wo K mg base x qual st (k + 1) ps (fnL ps.length N.length g) := by
  refine ⟨f, fd, def_ok F Sc (fun vs H Q E h => spL_len h) fun cd A fr s H vs Q E r h => ?_, hm, F⟩
  have hl := spL_len h
  obtain ⟨pa, Z, ds, pool, z, h2, hp, q⟩ := h
  have hd : ds.length = ps.length := by rw [← h2.length]; exact hl
  have xg : XG (cxOf (L2.CX P wo) P wo K mg base N qual (defScope st) f cd A fr s H E) k := ⟨rfl, passes_of (E₁ := fun e' s'' => L2.CX P wo fr H s E e' s'') (K := fun e s'' => L2.CX P wo fr H s E e s'') rfl, Sc.nd, r⟩
  have fs := hb _ rfl rfl rfl rfl rfl rfl rfl rfl xg
  have k0 := start_ok (N := N) z h2 hp
  refine ⟨_, fs.ps pa H (fun cls d _ H => E cls d H) (takes_of (E₁ := fun e' s'' => L2.CX P wo fr H s E e' s'') rfl rfl rfl rfl), Z, _, k0, ?_⟩
  unfold fnL at q
  rw [if_pos hd, ← hd] at q
  have grow : ∀ {σ' : VSt} {H' Z' : Hp} {s' : S}, Ok K pa H Z' H' σ' s' → ZExt H Z Z' → FGrow pa s'.pool Z H Z' H' := fun {σ' H' Z' s'} k z => ⟨k.base, z.zz, k.sub, z.old, fun ps e => (k.pool ps e).1⟩
  cases e : g ⟨ds.map Sl.v ++ List.replicate (N.length - ds.length) Sl.no, pool⟩ with
  | ok fl s' =>
    rw [e] at q
    exact fun p ws σ' H' Z' k z hp hz hb ra => q p ws _ _ (grow k z) hb hp hz ra
  | ex x s' =>
    rw [e] at q
    exact fun cls dx σ' H' Z' k z r => q _ _ _ _ (grow k z) r
  | bad => rw [e] at q; exact q
end
def eCallO (F : FnL) (f : B (List D)) : B (List D) := fun s => (f s).bind fun ds s1 => match F ds none with
  | .ok d none => .ok d s1
  | .ex e none => .ex e s1
  | _ => .bad
def eCallOP (F : FnL) (f : B (List D)) : B (List D) := fun s => (f s).bind fun ds s1 => match s1.pool with
  | none => .bad
  | some ps => match F ds (some ps) with
    | .ok d (some qs) => .ok d { s1 with pool := some qs }
    | .ex e (some qs) => .ex e { s1 with pool := some qs }
    | _ => .bad
section
variable {X : Cx} {W : WX} {pa : Addr} {B0 : Hp} {σ : VSt} {F : FnL} {Q : VK} {vs : List V} {ds : List D} {Z H : Hp} {s : S}
theorem callO_aux (k : Ok X.K pa B0 Z H σ s) (r : RepA X.K pa Z vs ds)
    (w : End X.K X.mg pa B0 W σ Z (match F ds none with
      | .ok d none => .ok d s
      | .ex e none => .ex e s
      | _ => .bad : R S (List D)) fun d s' Z' H' => ∀ p ws, H' p = some (.lst ws) → Fresh X.K pa B0 Z' σ s' p → RepA X.K pa Z' ws d → Q (.ref p) H') : spL X.K X.mg F vs H Q (WE W σ) := by
  refine ⟨pa, Z, ds, none, k.sub, r, fun ps e => (by cases e), ?_⟩
  cases e : F ds none with
  | ok d p' =>
    rw [e] at w
    cases p' with
    | none => exact fun p ws Z' H' g h0 hp hz ra => w H' Z' (k.grow g.grow) (k.ext g.grow) p ws hp ⟨hz, (k.fresh h0).b, (k.fresh h0).own⟩ ra
    | some _ => exact False.elim w
  | ex x p' =>
    rw [e] at w
    cases p' with
    | none => exact fun cls dx Z' H' g rv => w cls dx H' Z' (k.grow g.grow) (k.ext g.grow) rv
    | some _ => exact False.elim w
  | bad => rw [e] at w; exact w
theorem callOP_aux (k : Ok X.K pa B0 Z H σ s) (r : RepA X.K pa Z vs ds)
    (w : End X.K X.mg pa B0 W σ Z (match s.pool with
      | none => .bad
      | some ps => match F ds (some ps) with
        | .ok d (some qs) => .ok d { s with pool := some qs }
        | .ex e (some qs) => .ex e { s with pool := some qs }
        | _ => .bad : R S (List D)) fun d s' Z' H' => ∀ p ws, H' p = some (.lst ws) → Fresh X.K pa B0 Z' σ s' p → RepA X.K pa Z' ws d → Q (.ref p) H') : spL X.K X.mg F vs H Q (WE W σ) := by
  cases ep : s.pool with
  | none => rw [ep] at w; exact False.elim w
  | some ps =>
    rw [ep] at w
    have w : End X.K X.mg pa B0 W σ Z (match F ds (some ps) with
        | .ok d (some qs) => .ok d { s with pool := some qs }
        | .ex e (some qs) => .ex e { s with pool := some qs }
        | _ => .bad : R S (List D)) fun d s' Z' H' => ∀ p ws, H' p = some (.lst ws) → Fresh X.K pa B0 Z' σ s' p → RepA X.K pa Z' ws d → Q (.ref p) H' := w
    refine ⟨pa, Z, ds, some ps, k.sub, r, fun qs e => ?_, ?_⟩
    · cases e
      exact ⟨(k.pool ps ep).1, (k.pool ps ep).2.1⟩
    · cases e : F ds (some ps) with
      | ok d p' =>
        rw [e] at w
        cases p' with
        | some qs =>
          intro p ws Z' H' g h0 hp hz ra
          obtain ⟨k', z'⟩ := k.callP ep g
          exact w H' Z' k' z' p ws hp ⟨hz, (k.fresh h0).b, (k.fresh h0).own⟩ ra
        | none => exact False.elim w
      | ex x p' =>
        rw [e] at w
        cases p' with
        | some qs =>
          intro cls dx Z' H' g rv
          obtain ⟨k', z'⟩ := k.callP ep g
          exact w cls dx H' Z' k' z' rv
        | none => exact False.elim w
      | bad => rw [e] at w; exact w
end
section
variable {X : Cx} {j k : Nat} {x qual : Str} {st : Stmt} {ps : List Str} {F : FnL} {fr : B (List D)} {e : Expr} {es : List Expr} {p pos : Pos}
theorem callO_gen {ex : B (List D)} (hex : ∀ s pa B0 W σ Z Q, End X.K X.mg pa B0 W σ Z (ex s) (fun d s' Z' H' => ∀ p ws, H' p = some (.lst ws) → Fresh X.K pa B0 Z' σ s' p → RepA X.K pa Z' ws d → Q (.ref p) H') → End X.K X.mg pa B0 W σ Z (fr s) fun ds s1 Z1 H1 => ∀ vs, RepA X.K pa Z1 vs ds → Ok X.K pa B0 Z1 H1 σ s1 → spL X.K X.mg F vs H1 Q (WE W σ))
    (kn : KnownL X.prog X.w X.K X.mg X.base x qual st j ps F) (hr : Rm k X.A) (hj : j ≤ k) (gl : Gl X x) (hb : BindP X.K x qual st ps) (ha : FA X (e :: es) fr) (hdb : (x == ("__debug__" : Str)) = false)
    (he : starEach (e :: es) X.env = (false, eval e X.env) :: starEach es X.env) (hpl : (backTo pos (starEach es X.env)).any (·.1) = false) : FO X (.Call (.Name x p) (e :: es) [] pos) ex := by
  obtain ⟨f, fd, G, hm, Fu⟩ := kn.ex
  refine ⟨fun pa B0 W tk => ⟨fun pins s σ H Q I ⟨Z, st, k, w⟩ => ?_⟩⟩
  refine wpAny_Call_Name_kw (ld_glob I gl hm ?_ hdb)
  refine PySem.W.callWith_K (h₀ := X.base) I.ok.mod.kin Fu.kp (thn ((ha.pa pa B0 W tk).run pos pins s σ H (fun vs H1 => spL X.K X.mg F vs H1 Q (WE W σ)) I ⟨Z, st, k, (hex st pa B0 W σ Z Q w).imp fun ds s1 Z1 H1 k1 _ q vs r => q vs r k1⟩) fun us s1 ⟨vs, H1, I1, r, q⟩ => ⟨I1.kIn, ?_⟩) he hpl
  have hl : (us ++ []).length = ps.length := by
    rw [List.append_nil, ← r.length]
    exact G.len vs H1 Q (WE W σ) q
  have b := hb f fd Fu s1 us I1.kIn hl
  rw [List.append_nil] at b
  exact run_g G hr hj tk b I1 r q
theorem fo_call (kn : KnownL X.prog X.w X.K X.mg X.base x qual st j ps F) (hr : Rm k X.A) (hj : j ≤ k) (gl : Gl X x) (hb : BindP X.K x qual st ps) (ha : FA X (e :: es) fr) (hdb : (x == ("__debug__" : Str)) = false := by decide)
    (he : starEach (e :: es) X.env = (false, eval e X.env) :: starEach es X.env := by rfl) (hpl : (backTo pos (starEach es X.env)).any (·.1) = false := by rfl) : FO X (.Call (.Name x p) (e :: es) [] pos) (eCallO F fr) :=
  callO_gen (fun s pa B0 W σ Z Q w => (End.bind (show End X.K X.mg pa B0 W σ Z ((fr s).bind fun ds s1 => match F ds none with
    | .ok d none => .ok d s1
    | .ex e none => .ex e s1
    | _ => .bad) _ from w)).imp fun ds s1 Z1 H1 k1 _ q vs r k => callO_aux k r q) kn hr hj gl hb ha hdb he hpl
theorem fo_callP (kn : KnownL X.prog X.w X.K X.mg X.base x qual st j ps F) (hr : Rm k X.A) (hj : j ≤ k) (gl : Gl X x) (hb : BindP X.K x qual st ps) (ha : FA X (e :: es) fr) (hdb : (x == ("__debug__" : Str)) = false := by decide)
    (he : starEach (e :: es) X.env = (false, eval e X.env) :: starEach es X.env := by rfl) (hpl : (backTo pos (starEach es X.env)).any (·.1) = false := by rfl) : FO X (.Call (.Name x p) (e :: es) [] pos) (eCallOP F fr) :=
  callO_gen (fun s pa B0 W σ Z Q w => (End.bind (show End X.K X.mg pa B0 W σ Z ((fr s).bind fun ds s1 => match s1.pool with
    | none => .bad
    | some ps => match F ds (some ps) with
      | .ok d (some qs) => .ok d { s1 with pool := some qs }
      | .ex e (some qs) => .ex e { s1 with pool := some qs }
      | _ => .bad) _ from w)).imp fun ds s1 Z1 H1 k1 _ q vs r k => callOP_aux k r q) kn hr hj gl hb ha hdb he hpl
end

/-! ### the law's own call: a new list of ints is the pool of the callee -/
def callXk (F : Fn) (ds : List D) (s1 : S) : R S D := match s1.pool, intsD ds with
  | none, some ps => match F [poolD] (some ps) with
    | .ok (.bool b) (some _) => .ok (.bool b) s1
    | _ => .bad
  | _, _ => .bad
def eCallX (F : Fn) (fl : B (List D)) : B D := fun s => (fl s).bind (callXk F)
section
variable {X : Cx} {j k : Nat} {x qual : Str} {st : Stmt} {ps : List Str} {F : Fn} {fl : B (List D)} {e : Expr} {p pos : Pos}
theorem fe_callX (kn : Known X.prog X.w X.K X.mg X.base x qual st j ps F) (hr : Rm k X.A) (hj : j ≤ k) (gl : Gl X x) (hb : BindP X.K x qual st ps) (ha : FO X e fl) (hdb : (x == ("__debug__" : Str)) = false := by decide)
    (he : starEach [e] X.env = (false, eval e X.env) :: starEach [] X.env := by rfl) (hpl : (backTo pos (starEach [] X.env)).any (·.1) = false := by rfl) : FE X (.Call (.Name x p) [e] [] pos) (eCallX F fl) := by
  obtain ⟨f, fd, G, hm, Fu⟩ := kn.ex
  refine ⟨fun pa B0 W tk => ⟨fun pins s σ H Q I ⟨Z, st, k, w⟩ => ?_⟩⟩
  refine wpAny_Call_Name_kw (ld_glob I gl hm ?_ hdb)
  refine PySem.W.callWith_K (h₀ := X.base) I.ok.mod.kin Fu.kp (thn ((pa_cons (ha.pe pa B0 W tk) pa_nil he).run pos pins s σ H (fun vs H1 => spF X.K X.mg F vs H1 Q (WE W σ)) I ⟨Z, st, k, (End.bind (k := callXk F) w).imp fun ds s1 Z1 H1 k1 _ w1 q ws hq fr ra => ?_⟩) fun us s1 ⟨vs, H1, I1, r, q⟩ => ⟨I1.kIn, ?_⟩) he hpl
  · unfold callXk at w1
    cases e1 : s1.pool with
    | some _ => rw [e1] at w1; exact False.elim w1
    | none =>
      rw [e1] at w1
      cases e2 : intsD ds with
      | none => simp only [e2] at w1; exact False.elim w1
      | some ns =>
        simp only [e2] at w1
        rw [intsD_eq e2] at ra
        rw [ra.int] at hq
        refine ⟨q, Z1, [poolD], some ns, k1.sub, .cons .pool .nil, fun qs e3 => ?_, ?_⟩
        · cases e3
          exact ⟨hq, fr.z⟩
        · cases e3 : F [poolD] (some ns) with
          | bad => rw [e3] at w1; exact False.elim w1
          | ex _ _ => rw [e3] at w1; exact False.elim w1
          | ok d p' =>
            rw [e3] at w1
            cases p' with
            | none => cases d <;> exact False.elim w1
            | some qs =>
              cases d with
              | bool b =>
                have w1 : End X.K X.mg pa B0 W σ Z1 (.ok (.bool b) s1) (fun d _ Z' H' => ∀ v, Rep X.K pa Z' v d → Q v H') := w1
                intro v Z' H' g rv
                have hv : Rep X.K pa Z' v (.bool b) := by cases rv; exact .bl b
                have hold : ∀ b' o, B0 b' = some o → H1 b' = some o := fun b' o hb => k1.base b' o (.inr e1) hb
                refine w1 H' Z' ⟨k1.len, g.zh, fun b' o c hb => ?_, fun i d' hi => ?_, fun i xs hi => ?_, k1.apart, fun ps' e4 => ?_⟩ ⟨g.zz, fun b' o hb => g.new b' o (hold b' o hb)⟩ v hv
                · exact g.keep b' o (.inl fun z => by rw [z, fr.b] at hb; cases hb) (hold b' o hb)
                · obtain ⟨v', g1, g2⟩ := k1.val i d' hi
                  exact ⟨v', g1, g2.mono g.zz⟩
                · obtain ⟨p', vs', g1, g2, g3, g4, g5⟩ := k1.own i xs hi
                  have hne : p' ≠ q := fun z => fr.own i xs hi (z ▸ g1)
                  exact ⟨p', vs', g1, g.keep _ _ (.inl hne) g2, (g.new _ _ g2).trans g3, g4, g5.mono g.zz⟩
                · rw [e1] at e4; cases e4
              | _ => exact False.elim w1
  · have hl : (us ++ []).length = ps.length := by
      rw [List.append_nil, ← r.length]
      exact G.len vs H1 Q (WE W σ) q
    have b := hb f fd Fu s1 us I1.kIn hl
    rw [List.append_nil] at b
    exact run_g G hr hj tk b I1 r q
end

/-! ### calls with keywords -/
structure FKs (X : Cx) (kws : List Keyword) (f : B (List D)) : Prop where
  pk : ∀ pa B0 W, Takes X W → PK X kws (tA X.K X.mg pa B0 W f)
section
variable {X : Cx} {e : Expr} {kws : List Keyword} {f : B D} {fr : B (List D)} {nm : Option Str} {kpos : Pos}
theorem fk_nil : FKs X [] eNil := ⟨fun pa B0 W tk => ⟨fun pos pins s σ H Q I ⟨Z, st, k, w⟩ => pk_nil.run pos pins s σ H Q I (End.pure w k [] .nil)⟩⟩
theorem fk_cons (ha : FE X e f) (hr : FKs X kws fr) : FKs X (⟨nm, e, kpos⟩ :: kws) (eCons f fr) := by
  refine ⟨fun pa B0 W tk => ⟨fun pos pins s σ H Q I ⟨Z, st, k, w⟩ => (pk_cons (ha.pe pa B0 W tk) (hr.pk pa B0 W tk)).run pos pins s σ H Q I ?_⟩⟩
  refine ⟨Z, st, k, (End.bind w).imp fun d s1 Z1 H1 k1 _ w1 v rv => ⟨Z1, s1, k1, (End.bind w1).imp fun ds s2 Z2 H2 k2 z2 w2 vs rvs => End.pure w2 k2 _ (.cons (rv.mono z2.zz) rvs)⟩⟩
end
/-- the values in the parameters' order -/
def arr {α : Type} (perm : List Nat) (xs : List α) : List α := perm.filterMap fun i => xs[i]?
def arrB (np nk : Nat) (perm : List Nat) (fa fk : B (List D)) : B (List D) := do
  let ds ← fa
  let es ← fk
  lift (if ds.length = np ∧ es.length = nk then some (arr perm (ds ++ es)) else none)
theorem arr_cons {α : Type} (i : Nat) (perm : List Nat) (xs : List α) : arr (i :: perm) xs = match xs[i]? with
    | some x => x :: arr perm xs
    | none => arr perm xs := by
  unfold arr
  rw [List.filterMap_cons]
  cases xs[i]? <;> rfl
theorem arr_vals {xs : List V} {us : List Value} (r : Vals xs us) : ∀ perm : List Nat, Vals (arr perm xs) (arr perm us)
  | [] => .nil
  | i :: perm => by
    rw [arr_cons, arr_cons]
    have ih := arr_vals r perm
    cases e : xs[i]? with
    | none =>
      have e2 : us[i]? = none := by
        rw [List.getElem?_eq_none_iff] at e ⊢
        rw [← r.length]; exact e
      rw [e2]
      exact ih
    | some x =>
      obtain ⟨u, h1, h2⟩ := r.get e
      rw [h1]
      exact .cons h2 ih
theorem arr_rep {K : PySem.W.Frag} {pa : Addr} {Z : Hp} {xs : List V} {ds : List D} (r : RepA K pa Z xs ds) : ∀ perm : List Nat, RepA K pa Z (arr perm xs) (arr perm ds)
  | [] => .nil
  | i :: perm => by
    rw [arr_cons, arr_cons]
    have ih := arr_rep r perm
    cases e : xs[i]? with
    | none =>
      have e2 : ds[i]? = none := by
        rw [List.getElem?_eq_none_iff] at e ⊢
        rw [← r.length]; exact e
      rw [e2]
      exact ih
    | some x =>
      obtain ⟨u, h1, h2⟩ := r.at e
      rw [h1]
      exact .cons h2 ih
/-- how positional and keyword values bind -/
def BindK (K : PySem.W.Frag) (x qual : Str) (st : Stmt) (ps ks : List Str) (np nk : Nat) (perm : List Nat) : Prop := ∀ (f : Addr) (fd : FuncData), L2.Fun K x qual st f fd → ∀ us ws : List Value, us.length = np → ws.length = nk → bindArgs fd ⟨us, ks.zip ws⟩ = pure (ps.zip (arr perm (us ++ ws)))
theorem bindK {K : PySem.W.Frag} {x qual : Str} {st : Stmt} {ps ks : List Str} {np nk : Nat} {perm : List Nat}
    (h : ∀ (kV doc pm : Value) (an : Option Addr) (cdv ct : Value) (us ws : List Value), us.length = np → ws.length = nk → bindArgs (PySem.W.fnOf x qual (defArgs st) (defBody st) (defScope st) .none kV doc pm an cdv ct) ⟨us, ks.zip ws⟩ = pure (ps.zip (arr perm (us ++ ws)))) : BindK K x qual st ps ks np nk perm := by
  intro f fd F us ws h1 h2
  obtain ⟨oc, od, kV, doc, pm, an, cdv, ct, osl, rfl, lk, hcd⟩ := F.ex
  exact h kV doc pm an cdv ct us ws h1 h2
theorem len_succ {α : Type} {n : Nat} {xs : List α} (h : xs.length = n + 1) : ∃ y ys, xs = y :: ys ∧ ys.length = n := by
  cases xs with
  | nil => cases h
  | cons y ys => exact ⟨y, ys, rfl, by simpa using h⟩
theorem len_zero {α : Type} {xs : List α} (h : xs.length = 0) : xs = [] := List.eq_nil_of_length_eq_zero h
section
variable {X : Cx} {j k : Nat} {x qual : Str} {st : Stmt} {ps ks : List Str} {F : Fn} {fa fk : B (List D)} {e : Expr} {es : List Expr} {kws : List Keyword} {p pos : Pos} {np nk : Nat} {perm : List Nat}
/-- what the call's reading must be -/
def HexK (X : Cx) (F : Fn) (fr : B (List D)) (ex : B D) : Prop := ∀ s pa B0 W σ Z Q, End X.K X.mg pa B0 W σ Z (ex s) (fun d _ Z' H' => ∀ v, Rep X.K pa Z' v d → Q v H') → End X.K X.mg pa B0 W σ Z (fr s) fun ds s1 Z1 H1 => ∀ vs, RepA X.K pa Z1 vs ds → Ok X.K pa B0 Z1 H1 σ s1 → spF X.K X.mg F vs H1 Q (WE W σ)
theorem hex_call {fr : B (List D)} : HexK X F fr (eCall F fr) := fun s pa B0 W σ Z Q w => (End.bind (show End X.K X.mg pa B0 W σ Z ((fr s).bind fun ds s1 => match F ds none with
    | .ok d none => .ok d s1
    | .ex e none => .ex e s1
    | _ => .bad) _ from w)).imp fun ds s1 Z1 H1 k1 _ q vs r k => call_aux k r q
theorem hex_callP {fr : B (List D)} : HexK X F fr (eCallP F fr) := fun s pa B0 W σ Z Q w => (End.bind (show End X.K X.mg pa B0 W σ Z ((fr s).bind fun ds s1 => match s1.pool with
    | none => .bad
    | some ps => match F ds (some ps) with
      | .ok d (some qs) => .ok d { s1 with pool := some qs }
      | .ex e (some qs) => .ex e { s1 with pool := some qs }
      | _ => .bad) _ from w)).imp fun ds s1 Z1 H1 k1 _ q vs r k => callP_aux k r q
def tArr (K : PySem.W.Frag) (mg : Str → Option Value) (sp : Sp) (pa : Addr) (B0 : Hp) (W : WX) (np nk : Nat) (perm : List Nat) (fk : B (List D)) (σ : VSt) (Q : VK) (vs : List V) (H1 : Hp) : Prop :=
  vs.length = np ∧ tA K mg pa B0 W fk σ H1 fun zs H2 => zs.length = nk ∧ sp (arr perm (vs ++ zs)) H2 Q (WE W σ)
theorem kw_read {ex : B D} (hex : HexK X F (arrB np nk perm fa fk) ex) {pa : Addr} {B0 : Hp} {W : WX} {σ : VSt} {Z H : Hp} {Q : VK} {st : S} (k : Ok X.K pa B0 Z H σ st) (w : End X.K X.mg pa B0 W σ Z (ex st) (fun d _ Z' H' => ∀ v, Rep X.K pa Z' v d → Q v H')) :
    tA X.K X.mg pa B0 W fa σ H (fun vs H1 => ∃ Z1 s1 ds, Ok X.K pa B0 Z1 H1 σ s1 ∧ RepA X.K pa Z1 vs ds ∧ End X.K X.mg pa B0 W σ Z1 (fk s1) fun es s2 Z2 H2 => ∀ zs, RepA X.K pa Z2 zs es → ds.length = np ∧ es.length = nk ∧ spF X.K X.mg F (arr perm (vs ++ zs)) H2 Q (WE W σ)) := by
  have h := hex st pa B0 W σ Z Q w
  refine ⟨Z, st, k, (End.bind h).imp fun ds s1 Z1 H1 k1 _ w1 vs rv => ⟨Z1, s1, ds, k1, rv, (End.bind w1).imp fun es s2 Z2 H2 k2 z2 w2 zs rz => ?_⟩⟩
  obtain ⟨bs, hb, w3⟩ := End.lift1 w2
  split at hb
  · rename_i hc
    cases hb
    exact ⟨hc.1, hc.2, End.pure w3 k2 _ (arr_rep ((rv.mono z2.zz).append rz) perm) k2⟩
  · cases hb
theorem fe_callK {ex : B D} (hex : HexK X F (arrB np nk perm fa fk) ex) (kn : Known X.prog X.w X.K X.mg X.base x qual st j ps F) (hr : Rm k X.A) (hj : j ≤ k) (gl : Gl X x) (hb : BindK X.K x qual st ps ks np nk perm) (ha : FA X (e :: es) fa) (hk : FKs X kws fk) (hdb : (x == ("__debug__" : Str)) = false := by decide)
    (hall : (backToKw pos (keywordEach kws X.env)).all (·.1.isSome) = true := by rfl) (hks : (backToKw pos (keywordEach kws X.env)).filterMap (·.1) = ks := by rfl) (he : starEach (e :: es) X.env = (false, eval e X.env) :: starEach es X.env := by rfl)
    (hpl : ((backTo pos (starEach (e :: es) X.env)).any (·.1) || (backToKw pos (keywordEach kws X.env)).any (·.1.isNone)) = false := by rfl) : FE X (.Call (.Name x p) (e :: es) kws pos) ex := by
  obtain ⟨f, fd, G, hm, Fu⟩ := kn.ex
  refine ⟨fun pa B0 W tk => ⟨fun pins s σ H Q I ⟨Z, st, k, w⟩ => ?_⟩⟩
  refine wpAny_Call_Name_kw (ld_glob I gl hm ?_ hdb)
  refine PySem.W.callWith_KW (h₀ := X.base) I.ok.mod.kin Fu.kp hall (thn ((ha.pa pa B0 W tk).run pos pins s σ H _ I (kw_read hex k w)) fun us s1 ⟨vs, H1, I1, r, q⟩ => ?_) hpl he
  obtain ⟨Z1, st1, ds, k1, rv, w1⟩ := q
  refine thn ((hk.pk pa B0 W tk).run pos pins s1 σ H1 (fun zs H2 => ds.length = np ∧ zs.length = nk ∧ spF X.K X.mg F (arr perm (vs ++ zs)) H2 Q (WE W σ)) I1 ⟨Z1, st1, k1, w1.imp fun es s2 Z2 H2 _ _ q zs rz => ⟨(q zs rz).1, by rw [rz.length]; exact (q zs rz).2.1, (q zs rz).2.2⟩⟩) fun ws s2 ⟨zs, H2, I2, rz, q2⟩ => ⟨I2.kIn, ?_⟩
  rw [hks]
  obtain ⟨l1, l2, q3⟩ := q2
  exact run_g G hr hj tk (BindsTo.of_eq (hb f fd Fu us ws (by rw [← r.length, rv.length]; exact l1) (by rw [← rz.length]; exact l2))) I2 (arr_vals (r.append rz) perm) q3
theorem fe_callK0 {ex : B D} (hex : HexK X F (arrB 0 nk perm eNil fk) ex) (kn : Known X.prog X.w X.K X.mg X.base x qual st j ps F) (hr : Rm k X.A) (hj : j ≤ k) (gl : Gl X x) (hb : BindK X.K x qual st ps ks 0 nk perm) (hk : FKs X kws fk) (hdb : (x == ("__debug__" : Str)) = false := by decide)
    (hall : (backToKw pos (keywordEach kws X.env)).all (·.1.isSome) = true := by rfl) (hks : (backToKw pos (keywordEach kws X.env)).filterMap (·.1) = ks := by rfl)
    (hpl : ((backTo pos (starEach [] X.env)).any (·.1) || (backToKw pos (keywordEach kws X.env)).any (·.1.isNone)) = false := by rfl) : FE X (.Call (.Name x p) [] kws pos) ex := by
  obtain ⟨f, fd, G, hm, Fu⟩ := kn.ex
  refine ⟨fun pa B0 W tk => ⟨fun pins s σ H Q I ⟨Z, st, k, w⟩ => ?_⟩⟩
  refine wpAny_Call_Name_kw (ld_glob I gl hm ?_ hdb)
  obtain ⟨Z1, st1, k1, w1⟩ := kw_read hex k w
  have w1 := End.pure w1 k1 [] .nil
  obtain ⟨Z2, st2, ds, k2, rv, w2⟩ := w1
  refine PySem.W.callWith_KW0 (h₀ := X.base) I.ok.mod.kin Fu.kp hall (thn ((hk.pk pa B0 W tk).run pos pins s σ H (fun zs H2 => zs.length = nk ∧ spF X.K X.mg F (arr perm zs) H2 Q (WE W σ)) I ⟨Z2, st2, k2, w2.imp fun es s2 Z2 H2 _ _ q zs rz => ⟨by rw [rz.length]; exact (q zs rz).2.1, (q zs rz).2.2⟩⟩) fun ws s2 ⟨zs, H2, I2, rz, q2⟩ => ⟨I2.kIn, ?_⟩) hpl
  rw [hks]
  obtain ⟨l2, q3⟩ := q2
  exact run_g G hr hj tk (BindsTo.of_eq (hb f fd Fu [] ws rfl (by rw [← rz.length]; exact l2))) I2 (arr_vals rz perm) q3
end
end FL
set_option maxHeartbeats 1000000
/-! FL14: the law's end. -/
namespace FL
open PySem PySem.Spec PyProof.Rows L2

/-- the heap at the law's call: the script's list alone is told, and only where it is not written -/
structure At0 (K : PySem.W.Frag) (h : Heap) (a : Addr) (vs : List Value) (ns : List Int) (H : Hp) : Prop where
  one : ∀ b u, H b = some u → b = a ∧ K.lookup a = none ∧ u = .frz { cls := .type "list", data := .seq vs.toArray } (.lst (ns.map V.int))
  seq : SqL K H a (ns.map V.int)
theorem at0 {K : PySem.W.Frag} {h : Heap} {a : Addr} {vs : List Value} {ns : List Int} (KX : K.In h) (ha : h.get? a = some { cls := .type "list", data := .seq vs.toArray }) (hi : IntsAre vs ns) (hl : ns.length ≤ sizeLine) : ∃ H, At0 K h a vs ns H := by
  cases hk : K.lookup a with
  | some o =>
    have e := KX a o hk
    rw [ha] at e
    cases e
    exact ⟨fun _ => none, fun b u z => (by cases z), .inr ⟨_, vs.toArray, _, hk, rfl, rfl, rfl, by rw [List.size_toArray, hi.length]; exact hl, by simpa using vals_ints hi⟩⟩
  | none =>
    refine ⟨fun b => if b = a then some (.frz { cls := .type "list", data := .seq vs.toArray } (.lst (ns.map V.int))) else none, fun b u z => ?_, .inl (.inr ⟨_, if_pos rfl⟩)⟩
    by_cases hb : b = a
    · exact ⟨hb, hk, (Option.some.inj ((if_pos hb).symm.trans z)).symm⟩
    · have z' := (if_neg hb).symm.trans z
      cases z'
section
variable {P : Program} {w : World} {K : PySem.W.Frag} {mg mb : Str → Option Value} {a : Addr} {s₁ : Shared} {vs : List Value} {ns : List Int} {H : Hp}
theorem At0.hok (z : At0 K s₁.heap a vs ns H) (ha : s₁.heap.get? a = some { cls := .type "list", data := .seq vs.toArray }) (hi : IntsAre vs ns) (hl : ns.length ≤ sizeLine) : HOk P w H s₁.heap := by
  intro b u e
  obtain ⟨rfl, _, rfl⟩ := z.one b u e
  exact ⟨ha, by rw [List.length_map]; exact hl, vs, _, vals_ints hi, ha⟩
theorem At0.base (z : At0 K s₁.heap a vs ns H) {b : Addr} {o : Obj} (ha : s₁.heap.get? a = some { cls := .type "list", data := .seq vs.toArray }) (e : s₁.heap.get? b = some o) (h : b ≠ a ∨ K.lookup b ≠ none) : (hidT s₁.heap H).get? b = some o := by
  refine hidT_get e ?_
  cases q : H b with
  | none => rfl
  | some u =>
    obtain ⟨h1, h2, _⟩ := z.one b u q
    rcases h with h | h
    · exact absurd h1 h
    · exact absurd (h1 ▸ h2) h
theorem At0.nsp (z : At0 K s₁.heap a vs ns H) (ha : s₁.heap.get? a = some { cls := .type "list", data := .seq vs.toArray }) {b : Addr} {m : Str → Option Value} (h : s₁.heap.Ns b m) : (hidT s₁.heap H).Ns b m := by
  obtain ⟨o, es, ep, e, d, r⟩ := h
  refine ⟨o, es, ep, z.base ha e (.inl fun q => ?_), d, r⟩
  subst q
  rw [ha] at e
  cases e
  cases d
/-- the law's call, where no repr runs around it -/
theorem law_g {k : Nat} {fa : Addr} {fd : FuncData} {x : Str} {sp : Sp} (KX : K.In s₁.heap) (hns : s₁.heap.Ns mainGlobals mg) (hb : s₁.heap.Ns builtinsNs mb) (hbb : ∀ x : Str, x ≠ "__name__" → mb x = bootBuiltins x) (hlim : s₁.heap.NoLimit) (hg : s₁.gens = #[])
    (ha : s₁.heap.get? a = some { cls := .type "list", data := .seq vs.toArray }) (hi : IntsAre vs ns) (hl : ns.length ≤ sizeLine) (hr : Rm k callerA)
    (F : ∀ base : Heap, K.In base → base.Ns mainGlobals mg → FnG P w K mg base k fa fd [x] sp) (hbind : ∀ (s : Shared) (u : Value), BindsTo s fd ⟨[u], []⟩ [(x, u)])
    (hsp : ∀ H : Hp, Only H → SqL K H a (ns.map V.int) → sp [.ref a] H (fun v _ => v = .bl true) fun _ _ _ => False) :
    codeAny (model P w) callerA (.call (.ref fa) ⟨[.ref a], []⟩) (fun r s' => r = .ok (.ret (.bool true)) ∧ OldK s₁.heap s'.heap ∧ s'.os = s₁.os ∧ AllBare s'.gens) s₁ := by
  obtain ⟨H, z⟩ := at0 KX ha hi hl
  have hK : K.In (hidT s₁.heap H) := fun b o e => z.base ha (KX b o e) (.inr (by rw [e]; simp))
  have hM : Mod K mg (hidT s₁.heap H) := ⟨hK, z.nsp ha hns, ⟨mb, z.nsp ha hb, hbb⟩, by
    obtain ⟨mc, h1, h2⟩ := hlim
    exact ⟨mc, z.nsp ha h1, h2⟩⟩
  have hok : HOk P w H s₁.heap := z.hok ha hi hl
  have e0 : Env0 P w K mg (hidT s₁.heap H) callerA [] s₁ H := ⟨rfl, hM, fun b o e => of_hidT e, Nat.le_of_eq (hidT_size _ _), trivial, fun b hb => absurd (show b ∈ ([] : List Addr) from hb) (by simp), hok, .of_eq hg⟩
  have only : Only H := fun b => by
    cases q : H b with
    | none => exact .inl rfl
    | some u =>
      obtain ⟨_, _, h3⟩ := z.one b u q
      rw [h3]
      exact .inr ⟨_, _, rfl⟩
  refine codeAny_mono ((F _ hK (z.nsp ha hns)).go callerA hr [] s₁ H e0 ⟨[.ref a], []⟩ [.ref a] (hbind s₁ (.ref a)) [.ref a] (.cons rfl .nil) _ _ (hsp H only z.seq)) fun r s' h => ?_
  cases r with
  | error e =>
    obtain ⟨_, _, _, _, _, _, _, _, _, _, _, _, h⟩ := (show L2.CX P w [] H s₁ _ e s' from h)
    exact h.elim
  | ok fl =>
    cases fl with
    | ret u =>
      obtain ⟨v, H', os, bare, un, hok', r', q⟩ := h
      obtain rfl : v = .bl true := q
      obtain rfl : u = Value.bool true := r'
      refine ⟨rfl, OldK.of_keep fun b o e => ?_, os, bare⟩
      cases q : H b with
      | none => exact un.keep b o e q (fun z => absurd (show b ∈ ([] : List Addr) from z) (by simp)) (by simp)
      | some u =>
        obtain ⟨_, _, rfl⟩ := z.one b u q
        obtain ⟨e2, _⟩ := hok' b _ (un.frzs b _ _ q)
        obtain ⟨e1, _⟩ := hok b _ q
        rw [e] at e1
        cases e1
        exact e2
    | next => exact False.elim h
    | brk => exact False.elim h
    | cont => exact False.elim h
theorem walk_g {l : PySem.W.OpenLaw} {n k : Nat} {q : Program} {loose : List Str} {XP : (Str → Option Value) → Heap → Prop} {YP : World → Heap → Prop} {d : DefRec} {K : Params → PySem.W.Frag} {sp : World → (Str → Option Value) → Sp} {x : Str}
    (hn : l.most = some n) (hn2 : n ≤ sizeLine) (hdf : d.params.defaults = []) (hr : Rm k callerA) (hY : ∀ (w : World) (h : Heap), YP w h → (K w.params).In h)
    (F : ∀ (w : World) (mg : Str → Option Value) (fa : Addr) (h : Heap), (K w.params).In h → h.Ns mainGlobals mg → mg d.name = some (.ref fa) →
      ∃ fd : FuncData, (∀ (s : Shared) (u : Value), BindsTo s fd ⟨[u], []⟩ [(x, u)]) ∧ ∀ base : Heap, (K w.params).In base → base.Ns mainGlobals mg → FnG l.prog w (K w.params) mg base k fa fd [x] (sp w mg))
    (hsp : ∀ (w : World) (mg : Str → Option Value) (H : Hp) (a : Addr) (ns : List Int), ns.length ≤ n → Only H → SqL (K w.params) H a (ns.map V.int) → sp w mg [.ref a] H (fun v _ => v = .bl true) fun _ _ _ => False) :
    PySem.W.WalkO q loose XP YP l.row.toRowW d [] (fun f vs => PySem.call f vs) := by
  refine Att.attach_call hn hdf fun w s₀ s₁ mg mb fa o pm cd doc a vs ns G Y ho hd hcd hmg hobj hints hlen hg => ?_
  have KX := hY w _ Y
  obtain ⟨fd, hb, hF⟩ := F w mg fa _ KX G.T.g hmg
  exact law_g KX G.T.g G.T.b G.T.builtins G.T.nolimit hg hobj hints (Nat.le_trans hlen hn2) hr hF hb fun H hO hS => hsp w mg H a ns hlen hO hS
end
/-- what the law's own def must do: True at every script -/
def LawT (n : Nat) (F : Fn) : Prop := ∀ ns : List Int, ns.length ≤ n → F [scrD (ns.map PyData.int)] none = .ok (.bool true) none
theorem law_sp {n : Nat} {F : Fn} (h : LawT n F) {K : PySem.W.Frag} {mg : Str → Option Value} {H : Hp} {a : Addr} {ns : List Int} (hl : ns.length ≤ n) (hs : SqL K H a (ns.map V.int)) : spF K mg F [.ref a] H (fun v _ => v = .bl true) fun _ _ _ => False := by
  refine ⟨0, fun b => if H b = none then none else H b, [scrD (ns.map PyData.int)], none, fun b o e => ?_, .cons (.scr ?_ (RepA.ints ns)) .nil, fun ps e => (by cases e), ?_⟩
  · have e : (if H b = none then none else H b) = some o := e
    split at e
    · cases e
    · exact e
  · have e : (fun b => if H b = none then none else H b) = H := by
      funext b
      by_cases h : H b = none
      · rw [if_pos h, h]
      · rw [if_neg h]
    rw [e]
    exact hs
  · rw [h ns hl]
    exact fun v Z' H' g r => by cases r; rfl
theorem fun_uniq {K : PySem.W.Frag} {x qual : Str} {st : Stmt} {f : Addr} {fd fd' : FuncData} (h : L2.Fun K x qual st f fd) (h' : L2.Fun K x qual st f fd') : fd = fd' := by
  obtain ⟨oc, od, kV, doc, pm, an, cdv, ct, osl, rfl, lk, _⟩ := h.ex
  obtain ⟨oc', od', kV', doc', pm', an', cdv', ct', osl', rfl, lk', _⟩ := h'.ex
  rw [lk] at lk'
  have e := Option.some.inj lk'
  injection e with _ _ e2 _
  injection e2 with e3
theorem Known.fn {P : Program} {w : World} {K : PySem.W.Frag} {mg : Str → Option Value} {base : Heap} {x qual : Str} {st : Stmt} {k : Nat} {ps : List Str} {F : Fn} {fa : Addr} {fd : FuncData} (kn : Known P w K mg base x qual st k ps F) (hm : mg x = some (.ref fa)) (Fu : L2.Fun K x qual st fa fd) : FnG P w K mg base k fa fd ps (spF K mg F) := by
  obtain ⟨f, fd', G, hm', Fu'⟩ := kn.ex
  rw [hm] at hm'
  cases hm'
  rw [fun_uniq Fu Fu']
  exact G
end FL
set_option maxHeartbeats 1000000
/-! FL15: enumerate, zip, repr. -/
namespace FL
open PySem PySem.Spec PyProof.Rows L2

/-! ### enumerate of a tuple -/
set_option maxHeartbeats 1000000 in
theorem meets_enumB {v : Value} {o : Obj} {H : Heap → Prop} (B : Begins v o H) :
    Meets (Builtin.«enumerate.__new__» ⟨[.type "enumerate", v], []⟩) (fun _ R s => H s.heap ∧
      R (.ok (.ret (.ref (s.heap.push o).objs.size))) { s with heap := (s.heap.push o).push { cls := .type "enumerate", data := .fields #[.none, .bool false, .ref s.heap.objs.size, rawInt 0, .none, .none] } }) :=
  .of_wp fun prog w A R s h => by
    obtain ⟨hp, g, d, tk, os⟩ := s; obtain ⟨h1, h⟩ := h
    have hsub := sub_enumerate
    have q1 : ∀ {A' : Around} {E : Value → Shared → Prop} {Q : Value → Shared → Prop}, Q (.ref hp.objs.size) ⟨hp.push o, g, d, tk, os⟩ → wpAny (model prog w) A' (pyIter v) Q E ⟨hp, g, d, tk, os⟩ :=
      fun q => B.iter prog w _ _ ⟨hp, g, d, tk, os⟩ _ h1 q
    wp_walk using q1
    refine wpAny_stack_any fun st => wpAny_pure ?_
    split
    · rename_i c _ _ _ _ _
      cases (c == Value.type "enumerate")
      · wp_walk using q1
        exact ⟨_, rfl, h⟩
      · wp_walk using q1
        exact ⟨_, rfl, h⟩
    · wp_walk using q1
      exact ⟨_, rfl, h⟩
theorem call_enumB {prog : Program} {w : World} {A : Around} {E : Value → Shared → Prop} {s : Shared} {v : Value} {o : Obj} {H : Heap → Prop} {Q : Value → Shared → Prop} (B : Begins v o H) (h1 : H s.heap)
    (h : ∀ h', IsEnum h' (s.heap.objs.size + 1) s.heap.objs.size 0 .none → h'.get? s.heap.objs.size = some o → h'.objs.size = s.heap.objs.size + 2 →
      (∀ b o, s.heap.get? b = some o → h'.get? b = some o) → Q (.ref (s.heap.objs.size + 1)) { s with heap := h' }) :
    wpAny (model prog w) A (call (.type "enumerate") [v]) Q E s := by
  refine callType_new F.called_enumerate (by decide) (F.typeCall_enumerate_1 _) (F.newCall_enumerate_1 _) (fun obj => F.args_object_init_2 obj _) F.entry_enumerate_new (meets_enumB B) ⟨h1, ?_⟩
  have hz : (s.heap.push o).objs.size = s.heap.objs.size + 1 := Heap.size_push ..
  show _ ∧ _
  rw [hz]
  have he : IsEnum ((s.heap.push o).push { cls := .type "enumerate", data := .fields #[.none, .bool false, .ref s.heap.objs.size, rawInt 0, .none, .none] }) (s.heap.objs.size + 1) s.heap.objs.size 0 .none := by
    have := Heap.get?_push_size (s.heap.push o) (o := { cls := .type "enumerate", data := .fields #[.none, .bool false, .ref s.heap.objs.size, rawInt 0, .none, .none] }) rfl
    rw [hz] at this; exact this
  exact ⟨⟨_, he, rfl⟩, h _ he (Heap.get?_push_of_some _ (Heap.get?_push_size _ B.free)) (by rw [Heap.size_push, hz]) fun b o x => Heap.get?_push_of_some _ (Heap.get?_push_of_some _ x)⟩
def Itet (K : PySem.W.Frag) (a : Addr) : It :=
  ⟨fun i H => ∃ (xs : List V) (x : V), SqT K H a xs ∧ xs[i]? = some x, fun i H v H' => ∃ T x, v = .ref T ∧ H T = none ∧ H' = upd H T (.tup [.int (i : Nat), x]) ∧ ∀ xs, SqT K H a xs → xs[i]? = some x, fun i H => ∃ xs : List V, SqT K H a xs ∧ xs.length ≤ i⟩
theorem turn_enumT {P : Program} {w : World} {K : PySem.W.Frag} {elts : List Expr} {kk : Nat} {tpos : Pos} (a e it : Addr) :
    Turn P w K (.Tuple elts kk tpos) (Itet K a) [e, it] e (fun i h => (∃ old, IsEnum h e it ((i : Nat) : Int) old) ∧ h.IsTupleIter it a i ∧ e ≠ it ∧ a ≠ it ∧ a ≠ e) where
  mem := by simp
  obj := fun i h st b hb => by
    obtain ⟨⟨old, he⟩, ⟨o, ho, hc, hd⟩, _⟩ := st
    have e' : b = e ∨ b = it := by simpa using hb
    rcases e' with z | z
    · rw [z]; exact ⟨_, he, fun v q => nomatch q⟩
    · rw [z]; exact ⟨o, ho, fun v q => by rw [hd] at q; cases q⟩
  keep := fun i h h' st k => let ⟨⟨old, he⟩, hi, hne⟩ := st; ⟨⟨old, k e (by simp) _ he⟩, hi.at fun o q => k it (by simp) o q, hne⟩
  item := by
    intro X hP hw hK hc i pins s σ H E I hf st hg
    subst hP hw hK
    obtain ⟨⟨old, he⟩, hit, hne, hai, hae⟩ := st
    obtain ⟨xs, x, hq, hx⟩ := hg
    obtain ⟨its, rv, p, hz⟩ := I.tuple hq
    obtain ⟨u, hu, ru⟩ := rv.get hx
    have p' : s.heap.IsTuple a its.toArray := p
    have hel : e < s.heap.objs.size := Heap.lt_size he
    have hil : it < s.heap.objs.size := by obtain ⟨_, q, _⟩ := hit; exact Heap.lt_size q
    have hlt : i < its.toArray.size := by
      have := (List.getElem?_eq_some_iff.mp hu).1
      simpa using this
    refine wpAny_pyNext_enum_itemD (Draws.tuple (A := X.A.in1) (I.ok.hd hc) it a hai its.toArray) he ⟨hit, p'⟩ hlt hne (by simp only [List.mem_cons, List.mem_nil_iff, or_false, not_or]; exact ⟨hne, Ne.symm hae⟩) fun y h' tk hy ho hit' hT hsz hk => ?_
    have hyu : y = u := by
      have hu' : its.toArray[i]? = some u := by simpa using hu
      have hy : its.toArray[i]? = some y := hy
      rw [hu'] at hy
      exact (Option.some.inj hy).symm
    subst hyu
    refine ⟨_, rfl, wpAny_letOwnedTupleGo_enum (s := { s with heap := h', toks := tk + 1 }) ho fun h'' he' sb => ?_⟩
    have hT2 : h''.get? s.heap.objs.size = some { cls := .type "tuple", data := .seq #[.int i tk, y] } := (sb.2 _ (Nat.ne_of_gt hel)).trans hT
    have new : ObjOk X.prog X.w (upd H s.heap.objs.size (.tup [.int (i : Nat), x])) h'' s.heap.objs.size (.tup [.int (i : Nat), x]) :=
      ⟨by show 2 ≤ sizeLine; decide, [.int i tk, y], .cons ⟨_, rfl⟩ (.cons ru .nil), ⟨_, hT2, rfl, _, rfl⟩⟩
    have I1 : Inv X pins σ (upd H s.heap.objs.size (.tup [.int (i : Nat), x])) { s with heap := h'', toks := tk + 1 } :=
      I.turnedNew (ch := [e, it]) (fun b ob hb q => (sb.2 b (fun z => hb (by simp [z]))).trans (hk b ob (fun z => hb (by simp [z])) (fun z => hb (by simp [z])) q)) hf (Nat.le_refl _) new
    refine ⟨.ref s.heap.objs.size, _, I1, rfl, ⟨_, x, rfl, I.hok.fresh (Nat.le_refl _), rfl, fun ys hy => ?_⟩, ⟨⟨y, ?_⟩, hit'.1.at fun o q => (sb.2 it (Ne.symm hne)).trans q, hne, hai, hae⟩, fun b hb => ?_⟩
    · rw [I.tuple_inj hy hq]
      exact hx
    · have e1 : ((i + 1 : Nat) : Int) = (i : Int) + 1 := by omega
      rw [e1]; exact he'
    · have hb' : b < s.heap.objs.size := by
        have e' : b = e ∨ b = it := by simpa using hb
        rcases e' with z | z
        · rw [z]; exact hel
        · rw [z]; exact hil
      rw [upd_ne (Nat.ne_of_lt hb')]
      exact (hf b hb).1
  done := by
    intro X hP hw hK hc i pins s σ H E I hf st hg
    subst hP hw hK
    obtain ⟨⟨old, he⟩, hit, hne, hai, hae⟩ := st
    obtain ⟨xs, hq, hx⟩ := hg
    obtain ⟨its, rv, p, hz⟩ := I.tuple hq
    obtain ⟨f0, f1, f2, f3, f4, f5⟩ := hf it (by simp)
    have hl := rv.length
    have hh := I.ok.hd hc
    have p' : s.heap.IsTuple a its.toArray := p
    have D : Draws X.prog X.w X.A.in1 it [it, a] 0 (fun _ _ => True) (fun _ h => h.IsTupleIter it a i ∧ h.IsTuple a its.toArray) :=
      ⟨fun _ _ st => let ⟨o, ho, _⟩ := st.1; ⟨o, ho⟩, fun _ _ _ st hk => ⟨st.1.at fun o e => hk it (by simp) o e, st.2.at fun o e => hk a (by simp) o e⟩, fun j s Q E hi => absurd hi (Nat.not_lt_zero _),
        fun s Q E st hE => wpAny_nextOf_tuple_end hh st.1 st.2 (by simp; omega) hE⟩
    exact wpAny_pyNext_enum_endD D he ⟨hit, p'⟩ fun h' eb => ⟨rfl, I.turned (t' := s.toks) (fun b o hb q => eb b o hb q) f0 f1 f3 f4 f5⟩
  self := fun A i s Q E st h => let ⟨⟨_, he⟩, _⟩ := st; wpAny_pyIter_enum he h
def iEnumT (K : PySem.W.Frag) (ta : TA) : TI := fun σ H R => ta σ H fun vs H1 => ∃ a xs, vs = [.ref a] ∧ ((SqL K H1 a xs ∧ R (Ite K a) H1) ∨ (SqT K H1 a xs ∧ R (Itet K a) H1))
theorem pi_enumA {X : Cx} {e : Expr} {ta : TA} {p pos tpos : Pos} {elts : List Expr} {kk : Nat} (hg : Gl X "enumerate") (hm : X.mg "enumerate" = none) (ha : PA X [e] ta) (hs : starEach [e] X.env = [(false, eval e X.env)]) :
    PI X (.Tuple elts kk tpos) (.Call (.Name "enumerate" p) [e] [] pos) (iEnumT X.K ta) := by
  refine ⟨fun pins s σ H R I h => ?_⟩
  refine Call_ (ld_blt I hg hm boot_enumerate (PyProof.Rows.callWith_type1 (thn (ha.run pos pins s σ H _ I h) fun us s1 ⟨vs, H1, I1, r1, q1⟩ => ?_) hs rfl))
  obtain ⟨a, xs, ex, q⟩ := q1
  subst ex
  rw [Vals.ref1 r1]
  have fresh : ∀ b, b ∈ [s1.heap.objs.size + 1, s1.heap.objs.size] → FpOk X pins H1 b := fun b hb => by
    have e' : b = s1.heap.objs.size + 1 ∨ b = s1.heap.objs.size := by simpa using hb
    have hle : s1.heap.objs.size ≤ b := by
      rcases e' with z | z
      · rw [z]; exact Nat.le_add_right _ _
      · rw [z]; exact Nat.le_refl _
    exact I1.fpOk hle (I1.hok.fresh hle)
  rcases q with ⟨hq, q⟩ | ⟨hq, q⟩
  · obtain ⟨its, rv, p', hz⟩ := I1.list hq
    refine call_enumerate_list p'.isList fun h' he hit hsz hk => wpAny_pyIter_enum he ?_
    have I2 : Inv X pins σ H1 { s1 with heap := h' } := I1.kept (t' := s1.toks) hk
    exact ⟨s1.heap.objs.size + 1, [s1.heap.objs.size + 1, s1.heap.objs.size], _, _, H1, rfl, I2, turn_enum a (s1.heap.objs.size + 1) s1.heap.objs.size, ⟨⟨.none, he⟩, hit, Nat.succ_ne_self _⟩, fresh, q⟩
  · obtain ⟨its, rv, p', hz⟩ := I1.tuple hq
    have p2 : s1.heap.IsTuple a its.toArray := p'
    have hlt : a < s1.heap.objs.size := by obtain ⟨_, e, _⟩ := p2; exact Heap.lt_size e
    refine call_enumB (begins_tuple a its.toArray) p2 fun h' he hit hsz hk => wpAny_pyIter_enum he ?_
    have I2 : Inv X pins σ H1 { s1 with heap := h' } := I1.kept (t' := s1.toks) hk
    exact ⟨s1.heap.objs.size + 1, [s1.heap.objs.size + 1, s1.heap.objs.size], _, _, H1, rfl, I2, turn_enumT a (s1.heap.objs.size + 1) s1.heap.objs.size, ⟨⟨.none, he⟩, ⟨_, hit, rfl, rfl⟩, Nat.succ_ne_self _, Nat.ne_of_lt hlt, Nat.ne_of_lt (Nat.lt_succ_of_lt hlt)⟩, fresh, q⟩
/-- index and item -/
def enumD : Nat → List D → List D
  | _, [] => []
  | i, d :: ds => .tuple [.int (i : Nat), d] :: enumD (i + 1) ds
theorem enumD_get : ∀ (ds : List D) (n i : Nat), (enumD n ds)[i]? = ds[i]?.map fun d => .tuple [.int ((n + i : Nat) : Int), d]
  | [], n, i => by simp [enumD]
  | d :: ds, n, 0 => by simp [enumD]
  | d :: ds, n, i + 1 => by
    simp only [enumD, List.getElem?_cons_succ]
    rw [enumD_get ds (n + 1) i]
    have e : n + 1 + i = n + (i + 1) := by omega
    rw [e]
theorem enumD_len : ∀ (ds : List D) (n : Nat), (enumD n ds).length = ds.length
  | [], _ => rfl
  | _ :: ds, n => by simp [enumD, enumD_len ds (n + 1)]
def iEn (f : B D) : B (List D) := do
  let d ← f
  let ds ← lift (itemsOf d)
  pure (enumD 0 ds)
theorem pair_rep {K : PySem.W.Frag} {pa : Addr} {Z H : Hp} {T : Addr} {x y : V} {d e : D} (zh : Same Z H) (hT : H T = none) (rx : Rep K pa Z x d) (ry : Rep K pa Z y e) : ∃ Z', Grow Z H Z' (upd H T (.tup [x, y])) ∧ RepT K pa Z' (upd H T (.tup [x, y])) (.ref T) (.tuple [d, e]) :=
  ⟨Z, Grow.new0 zh hT, .inr ⟨T, _, _, rfl, rfl, .inl (.inl upd_same), .cons rx (.cons ry .nil)⟩⟩
section
variable {X : Cx} {e e2 : Expr} {f g : B D} {p pos tpos : Pos} {elts : List Expr} {kk : Nat}
theorem fi_enum (hg : Gl X "enumerate") (hm : X.mg "enumerate" = none) (ha : FE X e f) (hs : starEach [e] X.env = [(false, eval e X.env)] := by rfl) (hs2 : starEach [e] X.env = (false, eval e X.env) :: starEach [] X.env := by rfl) :
    FI X (.Tuple elts kk tpos) (.Call (.Name "enumerate" p) [e] [] pos) true (iEn f) := by
  refine ⟨fun pa B0 W tk => ⟨fun pins s σ H R I ⟨Z, st, k, w⟩ => (pi_enumA hg hm (pa_cons (ha.pe pa B0 W tk) pa_nil hs2) hs).run pins s σ H R I ?_⟩⟩
  refine ⟨Z, st, k, (End.bind w).imp fun d s1 Z1 H1 k1 _ w1 v rv => ?_⟩
  obtain ⟨ds, hd, w2⟩ := End.lift w1
  have w3 := End.pure w2 k1
  obtain ⟨a, vs, rfl, hq, ra⟩ := seq2_of (H := Z1) (Same.refl Z1) (.of rv) hd
  have el : ∀ {i : Nat} {d : D}, (enumD 0 ds)[i]? = some d → ∃ y, ds[i]? = some y ∧ d = .tuple [.int (i : Nat), y] := fun {i d} h => by
    rw [enumD_get] at h
    obtain ⟨y, h1, h2⟩ := Option.map_eq_some_iff.mp h
    refine ⟨y, h1, ?_⟩
    rw [← h2, Nat.zero_add]
  refine ⟨a, vs, rfl, ?_⟩
  rcases hq with hq | hq
  · refine .inl ⟨k1.sub.seq hq, w3 _ ⟨fun i Z H hi q1 q2 => ?_, fun i d Z H x H' hd q1 q2 y => ?_, fun i Z H hi q1 q2 => ⟨vs, (q1.trans q2).seq hq, by rw [ra.length]; rw [enumD_len] at hi; exact hi⟩⟩⟩
    · rw [enumD_len, ← ra.length] at hi
      exact ⟨vs, vs[i], (q1.trans q2).seq hq, List.getElem?_eq_getElem hi⟩
    · obtain ⟨T, x', rfl, hT, rfl, y3⟩ := y
      obtain ⟨d', g1, rfl⟩ := el hd
      obtain ⟨u, h1, h2⟩ := ra.get g1
      have e2 := y3 vs ((q1.trans q2).seq hq)
      rw [h1] at e2
      cases e2
      exact pair_rep q2 hT (.int _) (h2.mono q1)
  · refine .inr ⟨sqT_mono k1.sub hq, w3 _ ⟨fun i Z H hi q1 q2 => ?_, fun i d Z H x H' hd q1 q2 y => ?_, fun i Z H hi q1 q2 => ⟨vs, sqT_mono (q1.trans q2) hq, by rw [ra.length]; rw [enumD_len] at hi; exact hi⟩⟩⟩
    · rw [enumD_len, ← ra.length] at hi
      exact ⟨vs, vs[i], sqT_mono (q1.trans q2) hq, List.getElem?_eq_getElem hi⟩
    · obtain ⟨T, x', rfl, hT, rfl, y3⟩ := y
      obtain ⟨d', g1, rfl⟩ := el hd
      obtain ⟨u, h1, h2⟩ := ra.get g1
      have e2 := y3 vs (sqT_mono (q1.trans q2) hq)
      rw [h1] at e2
      cases e2
      exact pair_rep q2 hT (.int _) (h2.mono q1)

/-! ### zip of two lists or of two tuples -/
def zipD : List D → List D → List D
  | d :: ds, e :: es => .tuple [d, e] :: zipD ds es
  | _, _ => []
theorem zipD_get : ∀ (ds es : List D) (i : Nat) (x : D), (zipD ds es)[i]? = some x → ∃ d e, ds[i]? = some d ∧ es[i]? = some e ∧ x = .tuple [d, e]
  | [], _, i, x, h => by simp [zipD] at h
  | _ :: _, [], i, x, h => by simp [zipD] at h
  | d :: ds, e :: es, 0, x, h => ⟨d, e, rfl, rfl, (by simpa [zipD] using h.symm)⟩
  | d :: ds, e :: es, i + 1, x, h => by
    have h' : (zipD ds es)[i]? = some x := by simpa [zipD] using h
    obtain ⟨a, b, h1, h2, h3⟩ := zipD_get ds es i x h'
    exact ⟨a, b, by simpa using h1, by simpa using h2, h3⟩
theorem zipD_len : ∀ (ds es : List D), (zipD ds es).length = min ds.length es.length
  | [], es => by simp [zipD]
  | _ :: _, [] => by simp [zipD]
  | d :: ds, e :: es => by simp [zipD, zipD_len ds es]
def iZp (f g : B D) : B (List D) := do
  let d ← f
  let e ← g
  match d, e with
  | .list ds, .list es => pure (zipD ds es)
  | .tuple ds, .tuple es => pure (zipD ds es)
  | _, _ => lift none
theorem fi_zip (hg : Gl X "zip") (hm : X.mg "zip" = none) (ha : FE X e f) (hb : FE X e2 g) (hs : starEach [e, e2] X.env = (false, eval e X.env) :: starEach [e2] X.env := by rfl) (hs2 : starEach [e2] X.env = (false, eval e2 X.env) :: starEach [] X.env := by rfl) (hpl : (backTo pos (starEach [e2] X.env)).any (·.1) = false := by rfl) :
    FI X (.Tuple elts kk tpos) (.Call (.Name "zip" p) [e, e2] [] pos) true (iZp f g) := by
  refine ⟨fun pa B0 W tk => ⟨fun pins s σ H R I ⟨Z, st, k, w⟩ => (RZ.pi_zipA hg hm (pa_cons (ha.pe pa B0 W tk) (pa_cons (hb.pe pa B0 W tk) pa_nil hs2) hs) hs hpl).run pins s σ H R I ?_⟩⟩
  refine ⟨Z, st, k, (End.bind w).imp fun d s1 Z1 H1 k1 _ w1 v rv => ⟨Z1, s1, k1, (End.bind w1).imp fun e s2 Z2 H2 k2 z2 w2 u ru => ?_⟩⟩
  have rv := rv.mono z2.zz
  cases d with
  | list ds =>
    cases e with
    | list es =>
      have w3 := End.pure (show End X.K X.mg pa B0 W σ Z2 (.ok (zipD ds es) s2) _ from w2) k2
      obtain ⟨a, vs, rfl, ha, ra⟩ := frz_list rv
      obtain ⟨b, us, rfl, hb, rb⟩ := frz_list ru
      have hqa : ∀ {Z H : Hp}, Same Z2 Z → Same Z H → SqL X.K H a vs := fun q1 q2 => .of (q2 _ _ (q1 _ _ ha))
      have hqb : ∀ {Z H : Hp}, Same Z2 Z → Same Z H → SqL X.K H b us := fun q1 q2 => .of (q2 _ _ (q1 _ _ hb))
      refine ⟨a, b, vs, us, rfl, .inl ⟨hqa (Same.refl _) k2.sub, hqb (Same.refl _) k2.sub, w3 _ ⟨fun i Z H hi q1 q2 => ?_, fun i d Z H x H' hd q1 q2 y => ?_, fun i Z H hi q1 q2 => ⟨vs, us, hqa q1 q2, hqb q1 q2, by rw [zipD_len] at hi; rw [ra.length, rb.length]; omega⟩⟩⟩⟩
      · rw [zipD_len, ← ra.length, ← rb.length] at hi
        exact ⟨vs, us, vs[i]'(by omega), us[i]'(by omega), hqa q1 q2, hqb q1 q2, List.getElem?_eq_getElem _, List.getElem?_eq_getElem _⟩
      · obtain ⟨T, x1, x2, rfl, hT, rfl, y1, y2⟩ := y
        obtain ⟨d1, d2, g1, g2, rfl⟩ := zipD_get ds es i d hd
        obtain ⟨u1, h1, h2⟩ := ra.get g1
        obtain ⟨u2, h3, h4⟩ := rb.get g2
        have e1 := y1 vs (hqa q1 q2)
        have e2 := y2 us (hqb q1 q2)
        rw [h1] at e1
        rw [h3] at e2
        cases e1
        cases e2
        exact pair_rep q2 hT (h2.mono q1) (h4.mono q1)
    | _ => exact False.elim w2
  | tuple ds =>
    cases e with
    | tuple es =>
      have w3 := End.pure (show End X.K X.mg pa B0 W σ Z2 (.ok (zipD ds es) s2) _ from w2) k2
      obtain ⟨a, vs, rfl, ha, ra⟩ := h_tup (H := Z2) (Same.refl Z2) (.of rv)
      obtain ⟨b, us, rfl, hb, rb⟩ := h_tup (H := Z2) (Same.refl Z2) (.of ru)
      have hqa : ∀ {Z H : Hp}, Same Z2 Z → Same Z H → SqT X.K H a vs := fun q1 q2 => sqT_mono (q1.trans q2) ha.sq
      have hqb : ∀ {Z H : Hp}, Same Z2 Z → Same Z H → SqT X.K H b us := fun q1 q2 => sqT_mono (q1.trans q2) hb.sq
      refine ⟨a, b, vs, us, rfl, .inr ⟨hqa (Same.refl _) k2.sub, hqb (Same.refl _) k2.sub, w3 _ ⟨fun i Z H hi q1 q2 => ?_, fun i d Z H x H' hd q1 q2 y => ?_, fun i Z H hi q1 q2 => ⟨vs, us, hqa q1 q2, hqb q1 q2, by rw [zipD_len] at hi; rw [ra.length, rb.length]; omega⟩⟩⟩⟩
      · rw [zipD_len, ← ra.length, ← rb.length] at hi
        exact ⟨vs, us, vs[i]'(by omega), us[i]'(by omega), hqa q1 q2, hqb q1 q2, List.getElem?_eq_getElem _, List.getElem?_eq_getElem _⟩
      · obtain ⟨T, x1, x2, rfl, hT, rfl, y1, y2⟩ := y
        obtain ⟨d1, d2, g1, g2, rfl⟩ := zipD_get ds es i d hd
        obtain ⟨u1, h1, h2⟩ := ra.get g1
        obtain ⟨u2, h3, h4⟩ := rb.get g2
        have e1 := y1 vs (hqa q1 q2)
        have e2 := y2 us (hqb q1 q2)
        rw [h1] at e1
        rw [h3] at e2
        cases e1
        cases e2
        exact pair_rep q2 hT (h2.mono q1) (h4.mono q1)
    | _ => exact False.elim w2
  | _ => exact False.elim w2
end

/-! ### repr of data -/
def rReprA (K : PySem.W.Frag) : RC := fun xs H Q => ∃ a d, xs = [.ref a] ∧ Dp K H (.ref a) d ∧ d.showable = true ∧ d.hasDict = false ∧ d.depth ≤ 64 ∧ d.shown.length ≤ sizeLine ∧ Q (.str d.shown) H
theorem cr_repr {X : Cx} (hg : X.A.guards = some []) (hu : X.A.units + 66 < cLine) : CallR X (.builtin "repr") (rReprA X.K) := by
  intro pins s σ H xs us Q I r h
  obtain ⟨a, d, rfl, hd, h1, h2, h3, h4, q⟩ := h
  rw [Vals.ref1 r]
  obtain ⟨as, rd⟩ := Dp.reads I d _ (.ref a) hd rfl
  exact repr_of_reads' rd h1 (fun z => by rw [h2] at z; cases z) hg (by omega) (fun _ _ e => e) (fun h' u tk hk => ⟨.str _, H, I.kept hk, ⟨u, rfl⟩, q⟩) h4
def isSeq : D → Bool
  | .list _ => true
  | .tuple _ => true
  | _ => false
def gRepr : List D → Option D
  | [d] => if isSeq d = true ∧ SeqAt.shaped d = true ∧ d.showable = true ∧ d.hasDict = false ∧ d.shown.length ≤ sizeLine then some (.str d.shown) else none
  | _ => none
theorem c_repr {K : PySem.W.Frag} : CallG K (rReprA K) gRepr := by
  intro pa xs ds z Z H Q zh r hg q
  unfold gRepr at hg
  split at hg
  · rename_i d
    split at hg
    · rename_i hc
      cases hg
      obtain ⟨x, rfl, rx⟩ := ha1 r
      obtain ⟨h0, h1, h2, h3, h4⟩ := hc
      have hx : ∃ a, x = .ref a := by
        cases d with
        | list ds => obtain ⟨p, vs, hv, _⟩ := rx.list zh; exact ⟨p, hv⟩
        | tuple ds => obtain ⟨p, vs, hv, _⟩ := h_tup zh rx; exact ⟨p, hv⟩
        | _ => cases h0
      obtain ⟨a, rfl⟩ := hx
      exact ⟨a, d, rfl, rx.dp (SeqAt.canLay_of_shaped h1) zh, h2, h3, SeqAt.depth_of_shaped h1, h4, q _ _ _ (Grow.refl zh) (.str _)⟩
    · cases hg
  · cases hg
theorem Rm.u66 {k : Nat} {A : Around} (r : Rm k A) : A.units + 66 < cLine := by have := r.room.un; omega
theorem Rm.u65 {k : Nat} {A : Around} (r : Rm k A) : A.units + 65 < cLine := by have := r.room.un; omega
theorem Rm.u64 {k : Nat} {A : Around} (r : Rm k A) : A.units + 64 < cLine := by have := r.room.un; omega
/-- the inner block's scope, by the outer block's scope alone -/
def relS (scope sc : Scope) : Scope := { scope with names := scope.names.map fun (n, k) => if (k == .free && sc.kind == .function && sc.names.lookup n == some .cell) then (n, .cell) else (n, k) }
theorem cE_scope (scope : Scope) (cl : List (Str × Addr)) (C : Addr) (env : Env) : (compEnvC scope cl C env).scope = relS scope env.scope := rfl
end FL
set_option maxHeartbeats 1000000
/-! FL16: list comprehensions of any number of clauses. -/
namespace FL
open PySem PySem.Spec PyProof.Rows L2

section
variable {prog : Program} {w : World} {A : Around} {R : Result → Shared → Prop} {s : Shared} {elt t0 i0 t1 i1 : Expr} {ifs0 ifs1 : List Expr} {gens : List Comprehension} {scope : Scope} {pos : Pos} {it acc : Value} {env : Env} {d : Nat}
abbrev tstF (ifs : List Expr) (env : Env) : Sem Bool := forIn ifs true fun c r => if r = true then do let ok ← isTrue c env (eval c env); pure (ForInStep.yield ok) else pure (ForInStep.yield r)
/-- the loop of a clause that has another behind it -/
theorem loop_more (h0 : gens[d]? = some ⟨t0, i0, ifs0, 0⟩) (h1 : gens[d + 1]? = some ⟨t1, i1, ifs1, 0⟩) (hs : ∀ x, foldedSetIterable i1 env x = pure x) (I : Nat → Shared → Prop)
    (turn : ∀ n s, I n s → wpAny (model prog w) A (pyNext it) (fun r s₁ => match r with
      | none => R (.ok .next) s₁
      | some v => wpAny (model prog w) A (letOwnedTupleGo t0 it v) (fun _ s₁' => wpAny (model prog w) A (assign t0 env v) (fun _ s₂ =>
          wpAny (model prog w) A (tstF ifs0 env) (fun ok s₃ =>
            if ok = true then wpAny (model prog w) A (eval i1 env) (fun x s₄ => wpAny (model prog w) A (pyIter x) (fun it1 s₅ =>
              codeAny (model prog w) A (.compStart (.ListComp elt gens scope pos) (d + 1) it1 acc env) (fun r s' => match r with
                | .ok _ => ∃ m, m < n ∧ I m s'
                | .error _ => False) s₅) (fun _ _ => False) s₄) (fun _ _ => False) s₃
            else ∃ m, m < n ∧ I m s₃) (fun _ _ => False) s₂) (fun _ _ => False) s₁') (fun _ _ => False) s₁) (fun _ _ => False) s)
    (n : Nat) (h : I n s) : codeAny (model prog w) A (.compLoop (.ListComp elt gens scope pos) d it acc env) R s := by
  refine codeAny_loop rfl I (fun n s hI => ?_) n h
  show wpAny _ A ((compTurn (.ListComp elt gens scope pos) d it acc env).onRaise (fun x => do noteFrame x env; theTreesLotGoes x)) _ _ s
  refine wpAny_noted ?_
  unfold compTurn
  simp only [h0, h1]
  refine wpAny_bind (wpAny_standAt (wpAny_bind (wpAny_mono (turn n s hI) (fun r s₁ h₁ => ?_) fun _ _ h' => h'.elim)))
  cases r with
  | none => exact wpAny_pure h₁
  | some v =>
    refine wpAny_bind (wpAny_mono h₁ (fun _ s₁' h₁' => ?_) fun _ _ h' => h'.elim)
    refine wpAny_bind (wpAny_mono h₁' (fun _ s₂ h₂ => wpAny_bind (wpAny_mono h₂ (fun ok s₃ h₃ => ?_) fun _ _ h' => h'.elim)) fun _ _ h' => h'.elim)
    cases ok with
    | false => exact wpAny_pure ⟨rfl, h₃⟩
    | true =>
      refine wpAny_bind (wpAny_mono h₃ (fun x s₄ h₄ => ?_) fun _ _ h' => h'.elim)
      refine wpAny_bind (wpAny_standAt (wpAny_bind (wpAny_of_eq (hs x) (wpAny_bind (wpAny_holding (wpAny_mono h₄ (fun it1 s₅ h₅ => ?_) fun _ _ h' => h'.elim))))))
      refine wpAny_bind (wpAny_runOwn ?_)
      rw [Around.mark_none]
      refine codeAny_mono h₅ fun r s' hr => ?_
      cases r with
      | ok f =>
        first
          | exact wpAny_pure ⟨rfl, hr⟩
          | exact wpAny_bind (wpAny_pure (wpAny_pure ⟨rfl, hr⟩))
      | error e => exact hr.elim
/-- the loop of the last clause -/
theorem loop_last (h0 : gens[d]? = some ⟨t0, i0, ifs0, 0⟩) (h1 : gens[d + 1]? = none) (I : Nat → Shared → Prop)
    (turn : ∀ n s, I n s → wpAny (model prog w) A (pyNext it) (fun r s₁ => match r with
      | none => R (.ok .next) s₁
      | some v => wpAny (model prog w) A (letOwnedTupleGo t0 it v) (fun _ s₁' => wpAny (model prog w) A (assign t0 env v) (fun _ s₂ =>
          wpAny (model prog w) A (tstF ifs0 env) (fun ok s₃ =>
            if ok = true then wpAny (model prog w) A (eval elt env) (fun x s₄ =>
              wpAny (model prog w) A (call (.builtin "list.append") [acc, x]) (fun _ s₅ => ∃ m, m < n ∧ I m s₅) (fun _ _ => False) s₄) (fun _ _ => False) s₃
            else ∃ m, m < n ∧ I m s₃) (fun _ _ => False) s₂) (fun _ _ => False) s₁') (fun _ _ => False) s₁) (fun _ _ => False) s)
    (n : Nat) (h : I n s) : codeAny (model prog w) A (.compLoop (.ListComp elt gens scope pos) d it acc env) R s := by
  refine codeAny_loop rfl I (fun n s hI => ?_) n h
  show wpAny _ A ((compTurn (.ListComp elt gens scope pos) d it acc env).onRaise (fun x => do noteFrame x env; theTreesLotGoes x)) _ _ s
  refine wpAny_noted ?_
  unfold compTurn
  simp only [h0, h1]
  refine wpAny_bind (wpAny_standAt (wpAny_bind (wpAny_mono (turn n s hI) (fun r s₁ h₁ => ?_) fun _ _ h' => h'.elim)))
  cases r with
  | none => exact wpAny_pure h₁
  | some v =>
    refine wpAny_bind (wpAny_mono h₁ (fun _ s₁' h₁' => ?_) fun _ _ h' => h'.elim)
    refine wpAny_bind (wpAny_mono h₁' (fun _ s₂ h₂ => wpAny_bind (wpAny_mono h₂ (fun ok s₃ h₃ => ?_) fun _ _ h' => h'.elim)) fun _ _ h' => h'.elim)
    cases ok with
    | false => exact wpAny_pure ⟨rfl, h₃⟩
    | true =>
      exact wpAny_bind (wpAny_bind (wpAny_mono h₃ (fun x s₄ h₄ => wpAny_bind (wpAny_mono h₄ (fun _ s₅ h₅ => wpAny_pure (wpAny_pure ⟨rfl, h₅⟩)) fun _ _ h' => h'.elim)) fun _ _ h' => h'.elim))
/-- a later clause's start -/
theorem start_more (h0' : gens[d]? = some ⟨t0, i0, ifs0, 0⟩) (h0 : codeAny (model prog w) A (.compLoop (.ListComp elt gens scope pos) d it acc env) R s)
    (h : wpAny (model prog w) A (pyIter it) (fun it' s' => codeAny (model prog w) A (.compLoop (.ListComp elt gens scope pos) d it' acc env) R s') (fun _ _ => False) s) :
    codeAny (model prog w) A (.compStart (.ListComp elt gens scope pos) d it acc env) R s := by
  refine codeAny_of_tree ?_
  show wpAny _ _ ((compStart (.ListComp elt gens scope pos) d it acc env).onRaise (fun x => do noteFrame x env; standAt theWindowsPlace)) _ _ s
  refine wpAny_notedAt ?_
  unfold compStart
  have e : (clausesOf (.ListComp elt gens scope pos))[d]? = some ⟨t0, i0, ifs0, 0⟩ := h0'
  simp only [e]
  show wpAny _ _ (ask >>= _) _ _ s
  refine wpAny_bind (wpAny_askSetting (wpAny_ite ?_))
  split
  · first
      | exact wpAny_bind (wpAny_pure (wpAny_pure (And.intro rfl h0)))
      | exact wpAny_pure (And.intro rfl h0)
  · first
      | exact wpAny_bind (wpAny_rule (wpAny_bind (wpAny_standAt (wpAny_bind (wpAny_mono h (fun it' s' h' => wpAny_pure (And.intro rfl h')) fun _ _ x => x.elim)))))
      | (refine wpAny_bind (wpAny_rule ?_); show wpAny _ _ (standAt i0.pos >>= _) _ _ s; exact wpAny_bind (wpAny_standAt (wpAny_bind (wpAny_mono h (fun it' s' h' => wpAny_pure (And.intro rfl h')) fun _ _ x => x.elim))))
end

/-! ### what the clauses do -/
/-- a clause's loop: the row so far goes in, the row comes out; k is what stands behind the tests -/
def forC (a : Asg) (c : B Bool) (k : List D → B (List D)) : List D → List D → B (List D)
  | [], acc => fun s => .ok acc s
  | d :: ds, acc => fun s => match a d s with
    | .ok _ s1 => match c s1 with
      | .ok true s2 => match k acc s2 with
        | .ok acc' s3 => forC a c k ds acc' s3
        | _ => .bad
      | .ok false s2 => forC a c k ds acc s2
      | _ => .bad
    | _ => .bad
/-- the element joins the row -/
def kLast (g : B D) (ps : Bool) (acc : List D) : B (List D) := fun s => match g s with
  | .ok y s' => if acc.length < sizeLine ∧ s'.pool.isSome = ps then .ok (acc ++ [y]) s' else .bad
  | _ => .bad
abbrev Cl := Bool → List D → List D → B (List D)
def cLast (a : Asg) (c : B Bool) (g : B D) : Cl := fun ps => forC a c (kLast g ps)
def cMore (a : Asg) (c : B Bool) (fi : B (List D)) (f : Cl) : Cl := fun ps => forC a c fun acc s => match fi s with
  | .ok ds s1 => f ps ds acc s1
  | _ => .bad
def eLcN (fi : B (List D)) (own : List Nat) (f : Cl) : B (List D) := fun s => (fi s).bind fun ds s1 => match f s1.pool.isSome ds [] { s1 with env := wipeE s1.env own } with
  | .ok ys s2 => (backS s1 own s2).bind fun _ s3 => .ok ys s3
  | _ => .bad
/-- a state of the walk with the new list at Dd -/
structure At (K : PySem.W.Frag) (pa : Addr) (B0 Z1 : Hp) (Dd : Addr) (ps : Bool) (Z H : Hp) (σ : VSt) (s : S) (acc : List D) (ws : List V) : Prop where
  ok : Ok K pa (upd B0 Dd (.lst ws)) Z H σ s
  z : ZExt B0 Z1 Z
  zd : Z Dd = none
  ra : RepA K pa Z ws acc
/-- behind it: the row is acc, the state is s -/
def Beh (K : PySem.W.Frag) (pa : Addr) (B0 Z1 : Hp) (Dd : Addr) (ps : Bool) (n : Nat) (acc : List D) (s : S) (R : VSt → Hp → Prop) : Prop := ∀ σ H Z ws, σ.length = n → At K pa B0 Z1 Dd ps Z H σ s acc ws → R σ H
structure FCL (Y : Cx) (e : Expr) (dep : Nat) (tg : Expr) (tr : Bool) (ix : List Nat) (f : Cl) : Prop where
  run : ∀ (pa Dd : Addr) (pins : List (Addr × Obj)) (s : Shared) (σ : VSt) (H : Hp) (R : VSt → Hp → Prop) (it : Addr) (fp : List Addr) (tn : Nat → Heap → Prop) (J : It) (B0 Z1 : Hp) (ps : Bool) (Z : Hp) (st : S) (acc : List D) (ws : List V) (ds accF : List D) (sF : S),
    Inv Y pins σ H s → Turn Y.prog Y.w Y.K tg J fp it tn → tn 0 s.heap → (∀ b ∈ fp, FpOk Y pins H b) → B0 Dd = none → (Dd ≠ pa ∨ ps = false) → At Y.K pa B0 Z1 Dd ps Z H σ st acc ws → WalkD Y.K pa Z J ds tr → f ps ds acc st = .ok accF sF →
    (∀ σ' H' Z' ws', σ'.length = σ.length → (∀ j, j ∉ ix → σ'[j]? = σ[j]?) → At Y.K pa B0 Z1 Dd ps Z' H' σ' sF accF ws' → R σ' H') →
    codeAny (model Y.prog Y.w) Y.A (.compLoop e dep (.ref it) (.ref Dd) Y.env) (fun r s' => match r with
      | .ok _ => ∃ σ' H', Inv Y pins σ' H' s' ∧ R σ' H'
      | .error _ => False) s
section
variable {K : PySem.W.Frag} {pa : Addr} {B0 Z1 Z Z' H H' : Hp} {Dd : Addr} {ps : Bool} {σ σ' : VSt} {s s' : S} {acc : List D} {ws : List V}
theorem ZExt.lowD (h : B0 Dd = none) {o : HO} {Za Zb : Hp} (z : ZExt (upd B0 Dd o) Za Zb) : ZExt B0 Za Zb ∧ Zb Dd = Za Dd := ⟨z.low h, z.old Dd _ upd_same⟩
theorem At.next (t : At K pa B0 Z1 Dd ps Z H σ s acc ws) (h : B0 Dd = none) (k : Ok K pa (upd B0 Dd (.lst ws)) Z' H' σ' s') (z : ZExt (upd B0 Dd (.lst ws)) Z Z') : At K pa B0 Z1 Dd ps Z' H' σ' s' acc ws := by
  obtain ⟨z1, z2⟩ := z.lowD h
  exact ⟨k, t.z.trans z1, z2.trans t.zd, t.ra.mono z.zz⟩
theorem At.grow (t : At K pa B0 Z1 Dd ps Z H σ s acc ws) (h : B0 Dd = none) (g : Grow Z H Z' H') : At K pa B0 Z1 Dd ps Z' H' σ s acc ws := t.next h (t.ok.grow g) (t.ok.ext g)
end
section
variable {Y : Cx} {elt tg iter tg1 iter1 : Expr} {ifs ifs1 : List Expr} {gens : List Comprehension} {scope : Scope} {pos : Pos} {d : Nat} {tr tr1 : Bool} {ix ix1 : List Nat} {a : Asg} {c : B Bool} {g : B D} {fi1 : B (List D)} {f1 : Cl}
theorem tst_run {ifs : List Expr} (ht : FTs Y ifs c) (hx : ∀ u s, Y.xe u s → False) {pa : Addr} {B1 : Hp} {pins : List (Addr × Obj)} {s : Shared} {σ : VSt} {H Z : Hp} {st s2 : S} {b : Bool} {Q : Bool → Hp → Prop} (I : Inv Y pins σ H s) (k : Ok Y.K pa B1 Z H σ st) (e : c st = .ok b s2)
    (q : ∀ H' Z', Ok Y.K pa B1 Z' H' σ s2 → ZExt B1 Z Z' → Q b H') : wpAny (model Y.prog Y.w) Y.A (tstF ifs Y.env) (TP Y pins σ Q) (fun _ _ => False) s := by
  refine wpAny_mono ((ht.pt pa B1 WNo takes0).run pins s σ H Q I ⟨Z, st, k, ?_⟩) (fun _ _ h => h) fun u s h => hx u s h
  rw [e]
  exact q
theorem elt_run (he : FE Y elt g) (hx : ∀ u s, Y.xe u s → False) {pa : Addr} {B1 : Hp} {pins : List (Addr × Obj)} {s : Shared} {σ : VSt} {H Z : Hp} {st s2 : S} {y : D} {Q : VK} (I : Inv Y pins σ H s) (k : Ok Y.K pa B1 Z H σ st) (e : g st = .ok y s2)
    (q : ∀ H' Z' v, Ok Y.K pa B1 Z' H' σ s2 → ZExt B1 Z Z' → Rep Y.K pa Z' v y → Q v H') : wpAny (model Y.prog Y.w) Y.A (eval elt Y.env) (EP Y pins σ Q) (fun _ _ => False) s := by
  refine wpAny_mono ((he.pe pa B1 WNo takes0).run pins s σ H Q I ⟨Z, st, k, ?_⟩) (fun _ _ h => h) fun u s h => hx u s h
  rw [e]
  exact fun H' Z' k z v r => q H' Z' v k z r
theorem asg_run (hg : FG Y tg tr ix a) (hx : ∀ u s, Y.xe u s → False) {pa : Addr} {B1 : Hp} {pins : List (Addr × Obj)} {s : Shared} {σ : VSt} {H Z : Hp} {st s2 : S} {d : D} {x : V} {u : Value} {Q : VSt → Hp → Prop} (I : Inv Y pins σ H s) (rx : RelV x u) (k : Ok Y.K pa B1 Z H σ st) (r : if tr = true then RepT Y.K pa Z H x d else Rep Y.K pa Z x d) (e : a d st = .ok () s2)
    (q : ∀ σ' H' Z', Ok Y.K pa B1 Z' H' σ' s2 → ZExt B1 Z Z' → σ'.length = σ.length → (∀ j, j ∉ ix → σ'[j]? = σ[j]?) → Q σ' H') : wpAny (model Y.prog Y.w) Y.A (assign tg Y.env u) (fun _ s' => ∃ σ' H', Inv Y pins σ' H' s' ∧ Q σ' H') (fun _ _ => False) s := by
  refine wpAny_mono ((hg.pg pa B1).run pins s σ H x u Q I rx ⟨Z, st, d, k, r, ?_⟩) (fun _ _ h => h) fun u s h => hx u s h
  rw [e]
  exact q
/-- what is known of a turn that goes well -/
theorem forC_step {a : Asg} {c : B Bool} {k : List D → B (List D)} {d : D} {ds acc accF : List D} {s sF : S} (h : forC a c k (d :: ds) acc s = .ok accF sF) :
    ∃ s1 b s2, a d s = .ok () s1 ∧ c s1 = .ok b s2 ∧ if b = true then ∃ acc' s3, k acc s2 = .ok acc' s3 ∧ forC a c k ds acc' s3 = .ok accF sF else forC a c k ds acc s2 = .ok accF sF := by
  unfold forC at h
  cases e1 : a d s with
  | ok u s1 =>
    rw [e1] at h
    simp only at h
    cases e2 : c s1 with
    | ok b s2 =>
      rw [e2] at h
      cases b with
      | true =>
        simp only at h
        cases e3 : k acc s2 with
        | ok acc' s3 =>
          rw [e3] at h
          exact ⟨s1, true, s2, rfl, e2, iteT ⟨acc', s3, e3, h⟩⟩
        | ex _ _ => rw [e3] at h; cases h
        | bad => rw [e3] at h; cases h
      | false => exact ⟨s1, false, s2, rfl, e2, iteF h⟩
    | ex _ _ => rw [e2] at h; cases h
    | bad => rw [e2] at h; cases h
  | ex _ _ => rw [e1] at h; cases h
  | bad => rw [e1] at h; cases h
/-- the state between two turns -/
structure Mid (Y : Cx) (pa : Addr) (B0 Z1 : Hp) (Dd : Addr) (ps : Bool) (a : Asg) (c : B Bool) (k : List D → B (List D)) (ds accF : List D) (sF : S) (n : Nat) (σ0 : VSt) (ix : List Nat) (Zi : Hp) (i m : Nat) (σ : VSt) (H : Hp) : Prop where
  ex : ∃ Z st acc ws, At Y.K pa B0 Z1 Dd ps Z H σ st acc ws ∧ Same Zi Z ∧ i ≤ ds.length ∧ m = ds.length - i ∧ forC a c k (ds.drop i) acc st = .ok accF sF ∧ σ.length = n ∧ ∀ j, j ∉ ix → σ[j]? = σ0[j]?
theorem fcl_last (hc : Y.calm = true) (hx : ∀ u s, Y.xe u s → False) (h0 : gens[d]? = some ⟨tg, iter, ifs, 0⟩) (h1 : gens[d + 1]? = none) (hg : FG Y tg tr ix a) (ht : FTs Y ifs c) (he : FE Y elt g) : FCL Y (.ListComp elt gens scope pos) d tg tr ix (cLast a c g) := by
  refine ⟨fun pa Dd pins s σ H R it fp tn J B0 Z1 ps Z st acc ws ds accF sF I T st0 f0 hB hD at0 wd hf hR => ?_⟩
  refine loop_last h0 h1 (fun n s' => ∃ i σ' H', Inv Y pins σ' H' s' ∧ tn i s'.heap ∧ (∀ b ∈ fp, H' b = none) ∧ Mid Y pa B0 Z1 Dd ps a c (kLast g ps) ds accF sF σ.length σ ix Z i n σ' H') ?_ ds.length ⟨0, σ, H, I, st0, fun b hb => (f0 b hb).1, ⟨Z, st, acc, ws, at0, Same.refl Z, Nat.zero_le _, rfl, hf, rfl, fun _ _ => rfl⟩⟩
  rintro n s5 ⟨i, σ5, H5, I5, st5, n5, ⟨Z5, sS, acc5, ws5, at5, zz5, hi, rfl, hf5, hl5, hn5⟩⟩
  have stat : ∀ {H' : Hp}, (∀ b ∈ fp, H' b = none) → ∀ b ∈ fp, FpOk Y pins H' b := fun hn b hb => ⟨hn b hb, (f0 b hb).2⟩
  by_cases hlt : i < ds.length
  · have hdrop : ds.drop i = ds[i] :: ds.drop (i + 1) := List.drop_eq_getElem_cons hlt
    rw [hdrop] at hf5
    obtain ⟨s1, b, s2, e1, e2, e3⟩ := forC_step hf5
    refine wpAny_mono (T.item Y rfl rfl rfl hc i pins s5 σ5 H5 (fun _ _ => False) I5 (stat n5) st5 (wd.go i Z5 H5 hlt zz5 at5.ok.sub)) (fun r s6 ⟨u, hr, h6⟩ => ?_) fun _ _ h => h
    subst hr
    refine wpAny_mono h6 (fun _ s7 ⟨x, H7, I7, r7, y7, st7, n7⟩ => ?_) fun _ _ h => h
    obtain ⟨Z7, gr, rx⟩ := wd.yld i ds[i] Z5 H5 x H7 (List.getElem?_eq_getElem hlt) zz5 at5.ok.sub y7
    have at7 := at5.grow hB gr
    have I7' := I7.pinned (stat n7) (T.obj _ _ st7)
    have pinned : ∀ {σ' : VSt} {s' : Shared} {H' : Hp}, Inv Y (pins ++ pinsAt fp s7.heap) σ' H' s' → tn (i + 1) s'.heap ∧ ∀ b ∈ fp, H' b = none := fun {σ' s' H'} I' => by
      have pin' : ∀ b ∈ fp, ∀ o, s7.heap.get? b = some o → s'.heap.get? b = some o ∧ H' b = none := fun b hb o e =>
        let z := I'.pin (b, o) (List.mem_append_right _ (List.mem_append_right _ (mem_pinsAt hb e)))
        ⟨z.1, z.2.1⟩
      refine ⟨T.keep _ _ _ st7 fun b hb o e => (pin' b hb o e).1, fun b hb => ?_⟩
      obtain ⟨o, e, _⟩ := T.obj _ _ st7 b hb
      exact (pin' b hb o e).2
    refine wpAny_mono (asg_run hg hx (Q := fun σ8 H8 => ∃ Z8, At Y.K pa B0 Z1 Dd ps Z8 H8 σ8 s1 acc5 ws5 ∧ Same Z Z8 ∧ σ8.length = σ.length ∧ ∀ j, j ∉ ix → σ8[j]? = σ[j]?) I7' r7 at7.ok rx e1 fun σ8 H8 Z8 k8 z8 l8 m8 => ⟨Z8, at7.next hB k8 z8, (zz5.trans gr.zz).trans z8.zz, l8.trans hl5, fun j hj => (m8 j hj).trans (hn5 j hj)⟩) (fun _ s8 ⟨σ8, H8, I8, Z8, at8, zz8, l8, m8⟩ => ?_) fun _ _ h => h
    refine wpAny_mono (tst_run ht hx (Q := fun b' H9 => b' = b ∧ ∃ Z9, At Y.K pa B0 Z1 Dd ps Z9 H9 σ8 s2 acc5 ws5 ∧ Same Z Z9) I8 at8.ok e2 fun H9 Z9 k9 z9 => ⟨rfl, Z9, at8.next hB k9 z9, zz8.trans z9.zz⟩) (fun b' s9 ⟨H9, I9, eb, Z9, at9, zz9⟩ => ?_) fun _ _ h => h
    subst eb
    have fin : ∀ {s' : Shared} {H' : Hp} {Z' : Hp} {st' : S} {acc' : List D} {ws' : List V}, Inv Y (pins ++ pinsAt fp s7.heap) σ8 H' s' → At Y.K pa B0 Z1 Dd ps Z' H' σ8 st' acc' ws' → Same Z Z' → forC a c (kLast g ps) (ds.drop (i + 1)) acc' st' = .ok accF sF →
        ∃ m, m < ds.length - i ∧ ∃ i σ' H', Inv Y pins σ' H' s' ∧ tn i s'.heap ∧ (∀ b ∈ fp, H' b = none) ∧ Mid Y pa B0 Z1 Dd ps a c (kLast g ps) ds accF sF σ.length σ ix Z i m σ' H' := fun {s' H' Z' st' acc' ws'} I' at' zz' hf' => by
      obtain ⟨p1, p2⟩ := pinned I'
      exact ⟨ds.length - (i + 1), by omega, i + 1, σ8, H', I'.unpinned, p1, p2, ⟨Z', st', acc', ws', at', zz', hlt, rfl, hf', l8, m8⟩⟩
    cases b' with
    | false =>
      refine iteF ?_
      exact fin I9 at9 zz9 (by rw [if_neg (by decide)] at e3; exact e3)
    | true =>
      refine iteT ?_
      rw [if_pos rfl] at e3
      obtain ⟨acc', s3, e4, e5⟩ := e3
      unfold kLast at e4
      cases eg : g s2 with
      | ex _ _ => rw [eg] at e4; cases e4
      | bad => rw [eg] at e4; cases e4
      | ok y sg =>
        rw [eg] at e4
        simp only at e4
        split at e4
        · rename_i hz
          cases e4
          refine wpAny_mono (elt_run he hx (Q := fun v H10 => ∃ Z10, At Y.K pa B0 Z1 Dd ps Z10 H10 σ8 s3 acc5 ws5 ∧ Same Z Z10 ∧ Rep Y.K pa Z10 v y) I9 at9.ok eg fun H10 Z10 v k10 z10 rv => ⟨Z10, at9.next hB k10 z10, zz9.trans z10.zz, rv⟩) (fun v s10 ⟨xv, H10, I10, r10, Z10, at10, zz10, rv⟩ => ?_) fun _ _ h => h
          have hDp : Dd ≠ pa ∨ s3.pool = none := by
            rcases hD with h | h
            · exact .inl h
            · refine .inr ?_
              have := hz.2
              rw [h] at this
              cases e : s3.pool with
              | none => rfl
              | some _ => rw [e] at this; cases this
          have hDD : H10 Dd = some (.lst ws5) := at10.ok.base Dd _ hDp upd_same
          refine app_ok I10 hDD (by rw [at10.ra.length]; exact hz.1) r10 fun s11 I11 => ?_
          exact fin I11 ⟨at10.ok.putBase at10.zd hDp, at10.z, at10.zd, at10.ra.append (.cons rv .nil)⟩ zz10 e5
        · cases e4
  · refine wpAny_mono (T.done Y rfl rfl rfl hc i pins s5 σ5 H5 (fun _ _ => False) I5 (stat n5) st5 (wd.stop i Z5 H5 (Nat.le_of_not_lt hlt) zz5 at5.ok.sub)) (fun r s6 ⟨hr, I6⟩ => ?_) fun _ _ h => h
    subst hr
    have hlen : ds.drop i = [] := List.drop_eq_nil_of_le (Nat.le_of_not_lt hlt)
    rw [hlen] at hf5
    cases hf5
    exact ⟨σ5, H5, I6, hR σ5 H5 Z5 ws5 hl5 hn5 at5⟩
theorem fcl_more (hc : Y.calm = true) (hx : ∀ u s, Y.xe u s → False) (h0 : gens[d]? = some ⟨tg, iter, ifs, 0⟩) (h1 : gens[d + 1]? = some ⟨tg1, iter1, ifs1, 0⟩) (hg : FG Y tg tr ix a) (ht : FTs Y ifs c) (hi1 : FI Y tg1 iter1 tr1 fi1) (hin : FCL Y (.ListComp elt gens scope pos) (d + 1) tg1 tr1 ix1 f1)
    (hs1 : ∀ x, foldedSetIterable iter1 Y.env x = pure x := by intro _; rfl) : FCL Y (.ListComp elt gens scope pos) d tg tr (ix ++ ix1) (cMore a c fi1 f1) := by
  refine ⟨fun pa Dd pins s σ H R it fp tn J B0 Z1 ps Z st acc ws ds accF sF I T st0 f0 hB hD at0 wd hf hR => ?_⟩
  generalize hk : (fun acc s => match fi1 s with
    | .ok ds s1 => f1 ps ds acc s1
    | _ => .bad : List D → B (List D)) = k
  have hf : forC a c k ds acc st = .ok accF sF := by rw [← hk]; exact hf
  refine loop_more h0 h1 hs1 (fun n s' => ∃ i σ' H', Inv Y pins σ' H' s' ∧ tn i s'.heap ∧ (∀ b ∈ fp, H' b = none) ∧ Mid Y pa B0 Z1 Dd ps a c k ds accF sF σ.length σ (ix ++ ix1) Z i n σ' H') ?_ ds.length ⟨0, σ, H, I, st0, fun b hb => (f0 b hb).1, ⟨Z, st, acc, ws, at0, Same.refl Z, Nat.zero_le _, rfl, hf, rfl, fun _ _ => rfl⟩⟩
  rintro n s5 ⟨i, σ5, H5, I5, st5, n5, ⟨Z5, sS, acc5, ws5, at5, zz5, hi, rfl, hf5, hl5, hn5⟩⟩
  have stat : ∀ {H' : Hp}, (∀ b ∈ fp, H' b = none) → ∀ b ∈ fp, FpOk Y pins H' b := fun hn b hb => ⟨hn b hb, (f0 b hb).2⟩
  by_cases hlt : i < ds.length
  · have hdrop : ds.drop i = ds[i] :: ds.drop (i + 1) := List.drop_eq_getElem_cons hlt
    rw [hdrop] at hf5
    obtain ⟨s1, b, s2, e1, e2, e3⟩ := forC_step hf5
    refine wpAny_mono (T.item Y rfl rfl rfl hc i pins s5 σ5 H5 (fun _ _ => False) I5 (stat n5) st5 (wd.go i Z5 H5 hlt zz5 at5.ok.sub)) (fun r s6 ⟨u, hr, h6⟩ => ?_) fun _ _ h => h
    subst hr
    refine wpAny_mono h6 (fun _ s7 ⟨x, H7, I7, r7, y7, st7, n7⟩ => ?_) fun _ _ h => h
    obtain ⟨Z7, gr, rx⟩ := wd.yld i ds[i] Z5 H5 x H7 (List.getElem?_eq_getElem hlt) zz5 at5.ok.sub y7
    have at7 := at5.grow hB gr
    have I7' := I7.pinned (stat n7) (T.obj _ _ st7)
    have pinned : ∀ {σ' : VSt} {s' : Shared} {H' : Hp}, Inv Y (pins ++ pinsAt fp s7.heap) σ' H' s' → tn (i + 1) s'.heap ∧ ∀ b ∈ fp, H' b = none := fun {σ' s' H'} I' => by
      have pin' : ∀ b ∈ fp, ∀ o, s7.heap.get? b = some o → s'.heap.get? b = some o ∧ H' b = none := fun b hb o e =>
        let z := I'.pin (b, o) (List.mem_append_right _ (List.mem_append_right _ (mem_pinsAt hb e)))
        ⟨z.1, z.2.1⟩
      refine ⟨T.keep _ _ _ st7 fun b hb o e => (pin' b hb o e).1, fun b hb => ?_⟩
      obtain ⟨o, e, _⟩ := T.obj _ _ st7 b hb
      exact (pin' b hb o e).2
    refine wpAny_mono (asg_run hg hx (Q := fun σ8 H8 => ∃ Z8, At Y.K pa B0 Z1 Dd ps Z8 H8 σ8 s1 acc5 ws5 ∧ Same Z Z8 ∧ σ8.length = σ.length ∧ ∀ j, j ∉ ix ++ ix1 → σ8[j]? = σ[j]?) I7' r7 at7.ok rx e1 fun σ8 H8 Z8 k8 z8 l8 m8 => ⟨Z8, at7.next hB k8 z8, (zz5.trans gr.zz).trans z8.zz, l8.trans hl5, fun j hj => (m8 j fun q => hj (List.mem_append_left _ q)).trans (hn5 j hj)⟩) (fun _ s8 ⟨σ8, H8, I8, Z8, at8, zz8, l8, m8⟩ => ?_) fun _ _ h => h
    refine wpAny_mono (tst_run ht hx (Q := fun b' H9 => b' = b ∧ ∃ Z9, At Y.K pa B0 Z1 Dd ps Z9 H9 σ8 s2 acc5 ws5 ∧ Same Z Z9) I8 at8.ok e2 fun H9 Z9 k9 z9 => ⟨rfl, Z9, at8.next hB k9 z9, zz8.trans z9.zz⟩) (fun b' s9 ⟨H9, I9, eb, Z9, at9, zz9⟩ => ?_) fun _ _ h => h
    subst eb
    have fin : ∀ {σ' : VSt} {s' : Shared} {H' : Hp} {Z' : Hp} {st' : S} {acc' : List D} {ws' : List V}, Inv Y (pins ++ pinsAt fp s7.heap) σ' H' s' → σ'.length = σ.length → (∀ j, j ∉ ix ++ ix1 → σ'[j]? = σ[j]?) → At Y.K pa B0 Z1 Dd ps Z' H' σ' st' acc' ws' → Same Z Z' → forC a c k (ds.drop (i + 1)) acc' st' = .ok accF sF →
        ∃ m, m < ds.length - i ∧ ∃ i σ' H', Inv Y pins σ' H' s' ∧ tn i s'.heap ∧ (∀ b ∈ fp, H' b = none) ∧ Mid Y pa B0 Z1 Dd ps a c k ds accF sF σ.length σ (ix ++ ix1) Z i m σ' H' := fun {σ' s' H' Z' st' acc' ws'} I' l' m' at' zz' hf' => by
      obtain ⟨p1, p2⟩ := pinned I'
      exact ⟨ds.length - (i + 1), by omega, i + 1, σ', H', I'.unpinned, p1, p2, ⟨Z', st', acc', ws', at', zz', hlt, rfl, hf', l', m'⟩⟩
    cases b' with
    | false =>
      refine iteF ?_
      exact fin I9 l8 m8 at9 zz9 (by rw [if_neg (by decide)] at e3; exact e3)
    | true =>
      refine iteT ?_
      rw [if_pos rfl] at e3
      obtain ⟨acc', s3, e4, e5⟩ := e3
      rw [← hk] at e4
      simp only at e4
      cases eg : fi1 s2 with
      | ex _ _ => rw [eg] at e4; cases e4
      | bad => rw [eg] at e4; cases e4
      | ok ds1 sg =>
        rw [eg] at e4
        have e4 : f1 ps ds1 acc5 sg = .ok acc' s3 := e4
        refine wpAny_mono ((hi1.pi pa (upd B0 Dd (.lst ws5)) WNo takes0).run _ s9 σ8 H9 (fun J1 H11 => ∃ Z11, At Y.K pa B0 Z1 Dd ps Z11 H11 σ8 sg acc5 ws5 ∧ Same Z Z11 ∧ WalkD Y.K pa Z11 J1 ds1 tr1) I9 ⟨Z9, s2, at9.ok, ?_⟩) (fun xv s10 h10 => wpAny_mono h10 (fun itv s11 h11 => ?_) fun u s h => hx u s h) fun u s h => hx u s h
        · rw [eg]
          exact fun H11 Z11 k11 z11 J1 wd1 => ⟨Z11, at9.next hB k11 z11, zz9.trans z11.zz, wd1⟩
        · obtain ⟨it1, fp1, tn1, J1, H11, e11, I11, T1, st11, f11, Z11, at11, zz11, wd1⟩ := h11
          subst e11
          have loop := hin.run pa Dd _ s11 σ8 H11 (fun σ' H' => ∃ Z' ws', σ'.length = σ.length ∧ (∀ j, j ∉ ix ++ ix1 → σ'[j]? = σ[j]?) ∧ At Y.K pa B0 Z1 Dd ps Z' H' σ' s3 acc' ws' ∧ Same Z Z') it1 fp1 tn1 J1 B0 Z11 ps Z11 sg acc5 ws5 ds1 acc' s3 I11 T1 st11 f11 hB hD
            ⟨at11.ok, ZExt.refl _ _, at11.zd, at11.ra⟩ wd1 e4 fun σ' H' Z' ws' l' m' at' => ⟨Z', ws', l'.trans l8, fun j hj => (m' j fun q => hj (List.mem_append_right _ q)).trans (m8 j hj), ⟨at'.ok, at11.z.trans at'.z, at'.zd, at'.ra⟩, zz11.trans at'.z.zz⟩
          have loop2 := codeAny_mono (R' := fun r s' => match r with
              | .ok _ => ∃ m, m < ds.length - i ∧ ∃ i σ' H', Inv Y pins σ' H' s' ∧ tn i s'.heap ∧ (∀ b ∈ fp, H' b = none) ∧ Mid Y pa B0 Z1 Dd ps a c k ds accF sF σ.length σ (ix ++ ix1) Z i m σ' H'
              | .error _ => False) loop (fun r s' hr => by
            cases r with
            | ok fl =>
              obtain ⟨σ', H', I', Z', ws', l', m', at', zz'⟩ := hr
              exact fin I' l' m' at' zz' e5
            | error e => exact hr.elim)
          exact start_more h1 loop2 (T1.self Y.A 0 _ _ _ st11 loop2)
  · refine wpAny_mono (T.done Y rfl rfl rfl hc i pins s5 σ5 H5 (fun _ _ => False) I5 (stat n5) st5 (wd.stop i Z5 H5 (Nat.le_of_not_lt hlt) zz5 at5.ok.sub)) (fun r s6 ⟨hr, I6⟩ => ?_) fun _ _ h => h
    subst hr
    have hlen : ds.drop i = [] := List.drop_eq_nil_of_le (Nat.le_of_not_lt hlt)
    rw [hlen] at hf5
    cases hf5
    exact ⟨σ5, H5, I6, hR σ5 H5 Z5 ws5 hl5 hn5 at5⟩
end

/-! ### the whole comprehension -/
section
variable {X : Cx} {elt tg iter : Expr} {ifs : List Expr} {rest : List Comprehension} {scope : Scope} {own : List (Str × Nat)} {pos pos' : Pos} {tr : Bool} {ix : List Nat} {fi : B (List D)} {f : Cl}
theorem lcN_core {pins : List (Addr × Obj)} {s : Shared} {σ : VSt} {H : Hp} {use : Option (Value → Sem Unit)} {Qf : Value → Shared → Prop} {pa : Addr} {B0 : Hp} {W : WX} {R : Addr → Hp → Prop} (tk : Takes X W)
    (hc : X.calm = true) (hN : X.N.Nodup) (I : Inv X pins σ H s) (hi : FI X tg iter tr fi) (ok : BlkOk X.N X.env.scope scope own) (hix : ∀ j ∈ ix, j ∈ own.map (·.2)) (hf : Blk X scope fun Y => FCL Y (.ListComp elt (⟨tg, iter, ifs, 0⟩ :: rest) scope pos) 0 tg tr ix f) (hs : ∀ x, foldedSetIterable iter X.env x = pure x)
    (h : ∃ Z st, Ok X.K pa B0 Z H σ st ∧ End X.K X.mg pa B0 W σ Z (eLcN fi (own.map (·.2)) f st) fun ds s' Z' H' => ∀ p vs, H' p = some (.lst vs) → Fresh X.K pa B0 Z' σ s' p → RepA X.K pa Z' vs ds → R p H')
    (hRR : ∀ D C s' m H' fl, Inv X pins σ H' s' → R D H' → s'.heap.Ns C m → FpOk X pins H' C → compPost (model X.prog X.w) X.A X.xe use Qf (.ref D) C (.ok fl) s') :
    wpAny (model X.prog X.w) X.A (comprehension (.ListComp elt (⟨tg, iter, ifs, 0⟩ :: rest) scope pos) scope X.env pos' (newList []) false (eval iter X.env) use) Qf X.xe s := by
  have hfree : ∀ y ∈ scope.names, y.2 = .free → ∃ c, X.env.cells.lookup y.1 = some c := fun y hy e => by
    rcases ok.free y hy e with k | k
    · exact I.ok.has _ (.inl k)
    · exact I.ok.has _ (.inr k)
  obtain ⟨Z, st, k, w⟩ := h
  refine wpAny_comprehension_free (use := use) rfl hs (closure_ok hfree) ok.kind (fun y hy e => by rw [ok.uniq y hy, e])
    (thn ((hi.pi pa B0 W tk).run pins s σ H (fun J H1 => ∃ Z1 s1 ds, Ok X.K pa B0 Z1 H1 σ s1 ∧ WalkD X.K pa Z1 J ds tr ∧ End X.K X.mg pa B0 W σ Z1 (match f s1.pool.isSome ds [] { s1 with env := wipeE s1.env (own.map (·.2)) } with
      | .ok ys s2 => (backS s1 (own.map (·.2)) s2).bind fun _ s3 => .ok ys s3
      | _ => .bad) fun ds s' Z' H' => ∀ p vs, H' p = some (.lst vs) → Fresh X.K pa B0 Z' σ s' p → RepA X.K pa Z' vs ds → R p H') I ⟨Z, st, k, (End.bind w).imp fun ds s1 Z1 H1 k1 _ q J wd => ⟨Z1, s1, ds, k1, wd, q⟩⟩) fun xv s1 hx => thn hx fun itv s2 h2 => ?_)
  obtain ⟨it, fp, tn, J, H2, e, I2, T, st2, f2, Z1, sa, ds, k2, wd, w2⟩ := h2
  subst e
  refine wpAny_newObj_type (newEnv_comp ?_) (by show 0 ≤ sizeLine; decide)
  generalize hD : s2.heap.objs.size = Dd
  have hDn : H2 Dd = none := I2.hok.fresh (Nat.le_of_eq hD)
  have fr := k2.fresh hDn
  generalize hs3 : ({ s2 with heap := s2.heap.push { cls := .type "list", data := .seq ([] : List Value).toArray } } : Shared) = s3
  have I3 : Inv X pins σ (upd H2 Dd (.lst [])) s3 := by
    rw [← hs3]
    refine I2.laid (t' := s2.toks) (fun b o e => Heap.get?_push_of_some _ e) (Nat.le_of_eq hD) ⟨Nat.zero_le _, [], 0, .nil, ?_⟩
    rw [← hD]
    exact Heap.get?_push_size _ rfl
  have h3 : s3.heap = s2.heap.push { cls := .type "list", data := .seq ([] : List Value).toArray } := by rw [← hs3]
  have sz : ∀ b ∈ fp, b < s2.heap.objs.size := fun b hb => by
    obtain ⟨o, e, _⟩ := T.obj _ _ st2 b hb
    exact Heap.lt_size e
  have f3 : ∀ b ∈ fp, FpOk X pins (upd H2 Dd (.lst [])) b ∧ b < s3.heap.objs.size := fun b hb => by
    have hlt := sz b hb
    refine ⟨⟨?_, (f2 b hb).2⟩, by rw [h3, Heap.size_push]; exact Nat.lt_succ_of_lt hlt⟩
    rw [upd_ne (by rw [← hD]; exact Nat.ne_of_lt hlt)]
    exact (f2 b hb).1
  have st3 : tn 0 s3.heap := T.keep _ _ _ st2 fun b _ o e => by rw [h3]; exact Heap.get?_push_of_some _ e
  have I4 := block_start I3 ok hN f3
  have pf := hf s3 (upd H2 Dd (.lst [])) s3.heap.objs.size (cellsFrom (s3.heap.objs.size + 1) scope.names (cloFrom X.env.cells scope.names [])) fp
  show codeAny _ _ (.compStart (.ListComp elt (⟨tg, iter, ifs, 0⟩ :: rest) scope pos) 0 (.ref it) (.ref Dd) (compEnvC scope (cellsFrom (s3.heap.objs.size + 1) scope.names (cloFrom X.env.cells scope.names [])) s3.heap.objs.size X.env)) (compPost (model X.prog X.w) X.A X.xe use Qf (.ref Dd) s3.heap.objs.size) { s3 with heap := pushCells (s3.heap.push { cls := .type "dict", data := .dict #[] }) scope.names }
  have nfp : ∀ b ∈ fp, (upd H2 Dd (.lst [])) b = none := fun b hb => (f3 b hb).1.1
  generalize hce : compEnvC scope (cellsFrom (s3.heap.objs.size + 1) scope.names (cloFrom X.env.cells scope.names [])) s3.heap.objs.size X.env = ce at I4 pf ⊢
  have cL : ce.locals = s3.heap.objs.size := by subst hce; rfl
  generalize hs4 : ({ s3 with heap := pushCells (s3.heap.push { cls := .type "dict", data := .dict #[] }) scope.names } : Shared) = s4 at I4 ⊢
  have st4 : tn 0 s4.heap := T.keep _ _ _ st3 fun b _ o e => by rw [← hs4]; exact pushCells_keeps _ _ _ _ (Heap.get?_push_of_some _ e)
  -- the mirror's walk
  cases ef : f sa.pool.isSome ds [] { sa with env := wipeE sa.env (own.map (·.2)) } with
  | ex _ _ => rw [ef] at w2; exact w2.elim
  | bad => rw [ef] at w2; exact w2.elim
  | ok ys sb =>
    rw [ef] at w2
    have w2 : End X.K X.mg pa B0 W σ Z1 ((backS sa (own.map (·.2)) sb).bind fun _ s3 => .ok ys s3) (fun ds s' Z' H' => ∀ p vs, H' p = some (.lst vs) → Fresh X.K pa B0 Z' σ s' p → RepA X.K pa Z' vs ds → R p H') := w2
    unfold backS at w2
    split at w2
    · rename_i hps
      have w2 : End X.K X.mg pa B0 W σ Z1 (.ok ys { sb with env := backE sa.env sb.env (own.map (·.2)) }) (fun ds s' Z' H' => ∀ p vs, H' p = some (.lst vs) → Fresh X.K pa B0 Z' σ s' p → RepA X.K pa Z' vs ds → R p H') := w2
      have hDp : Dd ≠ pa ∨ sa.pool.isSome = false := by
        cases e : sa.pool with
        | none => exact .inr rfl
        | some ps => exact .inl (fr.notPool k2 e)
      have g0 := Grow.new0 k2.sub (o := .lst []) hDn
      have kH := (k2.grow g0).high (o := .lst []) (p := Dd) upd_same ⟨fr.z, fr.b, fr.own⟩
      have at0 : At X.K pa B0 Z1 Dd sa.pool.isSome Z1 (upd H2 Dd (.lst [])) (wipe σ (own.map (·.2))) { sa with env := wipeE sa.env (own.map (·.2)) } [] [] := ⟨kH.wipe _, ZExt.refl _ _, fr.z, .nil⟩
      have stat : ∀ b ∈ fp, FpOk (X.blk s3 (upd H2 Dd (.lst [])) scope ce fp) [] (upd H2 Dd (.lst [])) b := fun b hb =>
        ⟨nfp b hb, (I4.ok.exf b hb).1, I4.ok.exfs b hb, .inl hb, fun x c e => (I4.ok.exf b hb).2 x c e, fun p hp => absurd (show p ∈ ([] : List (Addr × Obj)) ++ [] from hp) (by simp)⟩
      have loop := pf.run pa Dd [] s4 (wipe σ (own.map (·.2))) (upd H2 Dd (.lst [])) (fun σ' H' => ∃ Z' ws', σ'.length = σ.length ∧ (∀ j, j ∉ own.map (·.2) → σ'[j]? = σ[j]?) ∧ At X.K pa B0 Z1 Dd sa.pool.isSome Z' H' σ' sb ys ws') it fp tn J B0 Z1 sa.pool.isSome Z1 _ [] [] ds ys sb I4 T st4 stat fr.b hDp at0 wd ef
        fun σ' H' Z' ws' l' m' at' => ⟨Z', ws', by rw [l', wipe_len], fun j hj => by rw [m' j fun q => hj (hix j q), wipe_at hj], at'⟩
      have loop2 := codeAny_mono loop (R' := compPost (model X.prog X.w) X.A X.xe use Qf (.ref Dd) s3.heap.objs.size) fun r s6 hr => ?_
      · exact codeAny_compStart_list loop2 (T.self X.A 0 _ _ _ st4 loop2)
      · cases r with
        | error e => exact hr.elim
        | ok fl =>
          obtain ⟨σ', H5, I6, Z', ws', l', m', at'⟩ := hr
          have I7 : Inv X pins σ H5 s6 := I3.call' (ch := fp) I6.os I6.base I6.hok I6.bare fun b hb => ⟨(f3 b hb).1.2.2.2.1, (f3 b hb).1.2.1, (f3 b hb).1.2.2.2.2.1, (f3 b hb).1.2.2.2.2.2⟩
          have nC : H5 s3.heap.objs.size = none := by
            have z : H5 ce.locals = none := I6.free
            rw [cL] at z
            exact z
          obtain ⟨m, hn, _⟩ := I6.loc
          have hn : s6.heap.Ns ce.locals m := hn
          rw [cL] at hn
          -- back to the base
          have hpool : sb.pool = none ∨ Dd ≠ pa := by
            rcases hDp with h | h
            · exact .inr h
            · refine .inl ?_
              rw [h] at hps
              cases e : sb.pool with
              | none => rfl
              | some _ => rw [e] at hps; cases hps
          have kb := Ok.back (kH.putBase (o' := .lst ws') fr.z (hDp.imp_right fun e => by cases e' : sa.pool with | none => rfl | some _ => rw [e'] at e; cases e)) at'.ok at'.z.zz (own.map (·.2)) l' m'
          have kf : Ok X.K pa B0 Z' H5 σ { sb with env := backE sa.env sb.env (own.map (·.2)) } := kb.low fr.b hpool
          have hDD : H5 Dd = some (.lst ws') := at'.ok.base Dd _ (by
            rcases hpool with h | h
            · exact .inr h
            · exact .inl h) upd_same
          refine hRR Dd s3.heap.objs.size s6 m H5 fl I7 (w2 H5 Z' kf at'.z Dd ws' hDD ⟨at'.zd, fr.b, fun j xs e hp => ?_⟩ at'.ra) hn (I3.fpOk (Nat.le_refl _) nC)
          obtain ⟨_, _, _, h4, _⟩ := kb.ownH e hp
          rw [upd_same] at h4
          cases h4
    · exact w2.elim
/-- as a value -/
theorem fo_lcN (hc : X.calm = true) (hN : X.N.Nodup) (hi : FI X tg iter tr fi) (ok : BlkOk X.N X.env.scope scope own) (hix : ∀ j ∈ ix, j ∈ own.map (·.2)) (hf : Blk X scope fun Y => FCL Y (.ListComp elt (⟨tg, iter, ifs, 0⟩ :: rest) scope pos) 0 tg tr ix f)
    (hs : ∀ x, foldedSetIterable iter X.env x = pure x := by intro _; rfl) : FO X (.ListComp elt (⟨tg, iter, ifs, 0⟩ :: rest) scope pos) (eLcN fi (own.map (·.2)) f) := by
  refine ⟨fun pa B0 W tk => ⟨fun pins s σ H Q I w => ?_⟩⟩
  rw [eval_ListComp]
  refine lcN_core (R := fun p H' => Q (.ref p) H') tk hc hN I hi ok hix hf hs w fun D C s' m H' fl I' q hn fk => ⟨m, hn, fun h'' sb => ?_⟩
  obtain ⟨f0, f1, f2, f3, f4, f5⟩ := fk
  exact ⟨.ref D, H', I'.turned (t' := s'.toks) (fun b o hb e => (sb.2 b hb).trans e) f0 f1 f3 f4 f5, rfl, q⟩
variable {spos py : Pos}
theorem ps_lcN {i : Nat} {y : Str} {pins : List (Addr × Obj)} {s : Shared} {σ : VSt} {H : Hp} {D : Ends} {pa : Addr} {B0 : Hp} {W : WX} (tk : Takes X W) (hc : X.calm = true) (hN : X.N.Nodup) (I : Inv X pins σ H s) (hi : FI X tg iter tr fi) (ok : BlkOk X.N X.env.scope scope own) (hix : ∀ j ∈ ix, j ∈ own.map (·.2)) (hf : Blk X scope fun Y => FCL Y (.ListComp elt (⟨tg, iter, ifs, 0⟩ :: rest) scope pos) 0 tg tr ix f)
    (hs : ∀ x, foldedSetIterable iter X.env x = pure x) (hy : X.N[i]? = some y) (hyl : X.env.scope.names.lookup y = some .local) (hsw : swapsWith (.ListComp elt (⟨tg, iter, ifs, 0⟩ :: rest) scope pos) (some (.Name y py)) spos.line X.env = pure true)
    (h : ∃ Z st, Ok X.K pa B0 Z H σ st ∧ End X.K X.mg pa B0 W σ Z (eLcN fi (own.map (·.2)) f st) fun ds s' Z' H' => ∀ p vs, H' p = some (.lst vs) → Fresh X.K pa B0 Z' σ s' p → RepA X.K pa Z' vs ds → gName i (.ref p) σ H' D.nx) :
    wpAny (model X.prog X.w) X.A (exec (.Assign [.Name y py] (.ListComp elt (⟨tg, iter, ifs, 0⟩ :: rest) scope pos) spos) X.env) (SP X pins D) X.xe s := by
  rw [exec_Assign_Name_used _ _ _ _ hsw]
  refine wpAny_bind (wpAny_standAt (wpAny_bind ?_))
  show wpAny _ X.A (do let _ ← comprehension (.ListComp elt (⟨tg, iter, ifs, 0⟩ :: rest) scope pos) scope X.env (firstIterPos (⟨tg, iter, ifs, 0⟩ :: rest) pos) (newList []) false (eval iter X.env) (some (assign (.Name y py) X.env))) _ _ s
  refine wpAny_bind (thn (lcN_core (R := fun p H' => gName i (.ref p) σ H' D.nx) (Qf := fun _ s' => SP X pins D .next s') tk hc hN I hi ok hix hf hs h fun L C s' m H' fl I' q hn fk => ?_) fun _ s' hq => wpAny_pure (wpAny_pure hq))
  show wpAny _ _ (assign (.Name y py) X.env (.ref L)) _ _ _
  refine wpAny_assign_Name (store_ok2 (v := V.ref L) I' hN hy (.inl hyl) rfl (fun s2 I2 ⟨a, sb, ha⟩ => ?_) (.inr hyl))
  obtain ⟨f0, f1, f2, f3, f4, f5⟩ := fk
  have haC : C ≠ a := by
    rcases ha with z | z
    · rw [z]; exact f1
    · exact fun e => f4 y a z e.symm
  refine ⟨m, hn.sameBut sb haC, fun h3 sb3 => ?_⟩
  exact ⟨_, H', I2.turned (t' := s2.toks) (fun b o hb e => (sb3.2 b hb).trans e) f0 f1 f3 f4 f5, q⟩
theorem fs_setLcN (i : Nat) {y : Str} (hc : X.calm = true) (hN : X.N.Nodup) (hi : FI X tg iter tr fi) (ok : BlkOk X.N X.env.scope scope own) (hix : ∀ j ∈ ix, j ∈ own.map (·.2)) (hf : Blk X scope fun Y => FCL Y (.ListComp elt (⟨tg, iter, ifs, 0⟩ :: rest) scope pos) 0 tg tr ix f)
    (hy : X.N[i]? = some y := by rfl) (hyl : X.env.scope.names.lookup y = some .local := by rfl) (hsw : swapsWith (.ListComp elt (⟨tg, iter, ifs, 0⟩ :: rest) scope pos) (some (.Name y py)) spos.line X.env = pure true := by exact sw_true rfl rfl rfl (by decide +kernel))
    (hs : ∀ x, foldedSetIterable iter X.env x = pure x := by intro _; rfl) : FS X (.Assign [.Name y py] (.ListComp elt (⟨tg, iter, ifs, 0⟩ :: rest) scope pos) spos) (sSet i (eL (eLcN fi (own.map (·.2)) f))) := by
  refine ⟨fun pa B0 W tk => ⟨fun pins s σ H En I ⟨Z, st, k, w⟩ => ps_lcN tk hc hN I hi ok hix hf hs hy hyl hsw ⟨Z, st, k, (End.bind (EndS.ofE w)).imp fun ds s1 Z1 H1 k1 _ w1 p vs hp fr ra => ?_⟩⟩⟩
  obtain ⟨k2, z⟩ := k1.freezeAt hp fr
  have w2 := w1 H1 _ k2 z
  exact EndS.nx w2 (k2.setV i (.lst upd_same (ra.mono z.zz)))
theorem fs_setLcNO (i : Nat) {y : Str} (hc : X.calm = true) (hN : X.N.Nodup) (hi : FI X tg iter tr fi) (ok : BlkOk X.N X.env.scope scope own) (hix : ∀ j ∈ ix, j ∈ own.map (·.2)) (hf : Blk X scope fun Y => FCL Y (.ListComp elt (⟨tg, iter, ifs, 0⟩ :: rest) scope pos) 0 tg tr ix f)
    (hy : X.N[i]? = some y := by rfl) (hyl : X.env.scope.names.lookup y = some .local := by rfl) (hsw : swapsWith (.ListComp elt (⟨tg, iter, ifs, 0⟩ :: rest) scope pos) (some (.Name y py)) spos.line X.env = pure true := by exact sw_true rfl rfl rfl (by decide +kernel))
    (hs : ∀ x, foldedSetIterable iter X.env x = pure x := by intro _; rfl) : FS X (.Assign [.Name y py] (.ListComp elt (⟨tg, iter, ifs, 0⟩ :: rest) scope pos) spos) (sSetO i (eLcN fi (own.map (·.2)) f)) := by
  refine ⟨fun pa B0 W tk => ⟨fun pins s σ H En I ⟨Z, st, k, w⟩ => ps_lcN tk hc hN I hi ok hix hf hs hy hyl hsw ⟨Z, st, k, (EndS.ofE w).imp fun ds s1 Z1 H1 k1 _ w1 p vs hp fr ra => w1.nx (k1.setO i hp fr ra)⟩⟩⟩
end
end FL
set_option maxHeartbeats 1000000
/-! FL17: a + b where both sides are only looked at; a list of one's own from it. -/
namespace FL
open PySem PySem.Spec PyProof.Rows L2
def e2S (g : D → D → Option D) (fa fb : B Src) : B D := do
  let x ← fa
  let y ← fb
  let d ← rd x
  let e ← rd y
  lift (g d e)
def gCat : D → D → Option (List D)
  | .list a, .list b => if a.length + b.length ≤ sizeLine then some (a ++ b) else none
  | _, _ => none
def eCat (fa fb : B Src) : B (List D) := do
  let x ← fa
  let y ← fb
  let d ← rd x
  let e ← rd y
  lift (gCat d e)
section
variable {X : Cx} {a b : Expr} {sa sb : B Src} {pos : Pos}
theorem fe_opS {op : Operator} {r : R2} {g : D → D → Option D} (ho : OpR X (binaryOp op) r) (hg : Op2 X.K r g) (ha : FB X a sa) (hb : FB X b sb) : FE X (.BinOp a op b pos) (e2S g sa sb) := by
  refine ⟨fun pa B0 W tk => ⟨fun pins s σ H Q I ⟨Z, st, k, w⟩ => (pe_op ho (ha.pe pa B0 W tk) (hb.pe pa B0 W tk)).run pins s σ H Q I ?_⟩⟩
  refine ⟨Z, st, k, (End.bind w).imp fun x s1 Z1 H1 k1 _ w1 v rv => ⟨Z1, s1, k1, (End.bind w1).imp fun y s2 Z2 H2 k2 z2 w2 u ru => ?_⟩⟩
  obtain ⟨d, hd, w3⟩ := End.rd k2 (rv.mono z2.zz) w2
  obtain ⟨e, he, w4⟩ := End.rd k2 ru w3
  obtain ⟨z, hz, w5⟩ := End.lift1 w4
  exact hg pa v u d e z Z2 H2 Q k2.sub hd he hz fun t Z' H' gr rt => w5.grow k2 gr t rt
theorem fo_cat (ha : FB X a sa) (hb : FB X b sb) : FO X (.BinOp a .Add b pos) (eCat sa sb) := by
  refine ⟨fun pa B0 W tk => ⟨fun pins s σ H Q I ⟨Z, st, k, w⟩ => (pe_op op_cat (ha.pe pa B0 W tk) (hb.pe pa B0 W tk)).run pins s σ H Q I ?_⟩⟩
  refine ⟨Z, st, k, (End.bind w).imp fun x s1 Z1 H1 k1 _ w1 v rv => ⟨Z1, s1, k1, (End.bind w1).imp fun y s2 Z2 H2 k2 z2 w2 u ru => ?_⟩⟩
  obtain ⟨d, hd, w3⟩ := End.rd k2 (rv.mono z2.zz) w2
  obtain ⟨e, he, w4⟩ := End.rd k2 ru w3
  obtain ⟨zs, hz, w5⟩ := End.lift1 w4
  cases d with
  | list xs =>
    cases e with
    | list ys =>
      simp only [gCat] at hz
      split at hz
      · rename_i hl
        cases hz
        obtain ⟨p, vs, rfl, hp, ra⟩ := hd.list k2.sub
        obtain ⟨p', ws, rfl, hp', rb⟩ := he.list k2.sub
        refine ⟨p, p', vs, ws, rfl, rfl, hp, hp', by rw [ra.length, rb.length]; exact hl, fun l hn => ?_⟩
        have g := Grow.new0 k2.sub (o := .lst (vs ++ ws)) hn
        have f1 := k2.fresh hn
        exact w5 _ _ (k2.grow g) (k2.ext g) l _ upd_same ⟨f1.z, f1.b, f1.own⟩ (ra.append rb)
      · cases hz
    | _ => cases hz
  | _ => cases hz
end
end FL
set_option maxHeartbeats 1000000
/-! FL18: x[::-1], t * k, len(set(t)), an empty dict, [..] * k. -/
namespace FL
open PySem PySem.Spec PyProof.Rows L2
/-! ### x[::-1] -/
theorem rev_adjust (n : Nat) : Builtin.Slice.sliceAdjust none none (-1) (n : Int) = ((n : Int) - 1, -1) := by
  unfold Builtin.Slice.sliceAdjust
  simp
theorem rev_places (n : Nat) : Builtin.Slice.slicePlaces ((n : Int) - 1) (-1) (-1) = n := by
  unfold Builtin.Slice.slicePlaces
  simp
  omega
theorem fm_congr {α β : Type} {f g : α → Option β} : ∀ {l : List α}, (∀ x ∈ l, f x = g x) → l.filterMap f = l.filterMap g
  | [], _ => rfl
  | a :: l, h => by
    rw [List.filterMap_cons, List.filterMap_cons, h a List.mem_cons_self, fm_congr fun x hx => h x (List.mem_cons_of_mem _ hx)]
theorem rev_pick (xs : Array Value) : ((List.range xs.size).filterMap fun (m : Nat) => xs[(((xs.size : Int) - 1) + (m : Int) * (-1)).toNat]?).toArray = xs.toList.reverse.toArray := by
  congr 1
  apply List.ext_getElem?
  intro i
  have e : ((List.range xs.size).filterMap fun (m : Nat) => xs[(((xs.size : Int) - 1) + (m : Int) * (-1)).toNat]?) = (List.range xs.size).map fun m => xs.getD (xs.size - 1 - m) .none := by
    rw [← List.filterMap_eq_map]
    apply fm_congr
    intro m hm
    have hm := List.mem_range.mp hm
    have e1 : (((xs.size : Int) - 1) + (m : Int) * (-1)).toNat = xs.size - 1 - m := by omega
    rw [e1, Array.getElem?_eq_getElem (by omega)]
    simp [Array.getD, show xs.size - 1 - m < xs.size by omega]
  rw [e]
  by_cases h : i < xs.size
  · rw [List.getElem?_map, List.getElem?_range h, List.getElem?_reverse (by simpa using h)]
    simp only [Option.map_some, Array.length_toList]
    rw [Array.getElem?_toList, Array.getElem?_eq_getElem (by omega)]
    simp [Array.getD, show xs.size - 1 - i < xs.size by omega]
  · rw [List.getElem?_eq_none (by simp; omega), List.getElem?_eq_none (by simp; omega)]
section
variable {prog : Program} {w : World} {A : Around} {E : Value → Shared → Prop} {s : Shared}
theorem rev_applied {sl : Addr} {vl vu vs : Value} {n : Nat} {Q : Int × Int × Nat → Shared → Prop} (hs : s.heap.IsSliceOf sl vl vu vs) (pl : IsPart vl none) (pu : IsPart vu none) (ps : IsPart vs (some (-1)))
    (h : Q ((n : Int) - 1, -1, n) s) : wpAny (model prog w) A (Builtin.Slice.sliceApplied (.ref sl) (pure (n : Int))) Q E s := by
  obtain ⟨ob, g1, g2, g3⟩ := id hs
  unfold Builtin.Slice.sliceApplied Builtin.Slice.sliceFields
  refine wpAny_bind (wpAny_bind (wpAny_field g1 g3 (x := vl) rfl (wpAny_bind (wpAny_field g1 g3 (x := vu) rfl (wpAny_bind (wpAny_field g1 g3 (x := vs) rfl (wpAny_pure ?_)))))))
  refine wpAny_bind (HT.slicePart_ ps ?_)
  show wpAny _ _ (if ((-1 : Int) == 0) = true then _ else _) _ _ s
  rw [if_neg (by decide)]
  refine wpAny_bind (HT.slicePart_ pl (wpAny_bind (HT.slicePart_ pu (wpAny_bind (wpAny_pure ?_)))))
  show wpAny _ _ (match Builtin.Slice.sliceAdjust none none (-1) (n : Int) with | (lo, hi) => pure (lo, (-1 : Int), Builtin.Slice.slicePlaces lo hi (-1))) _ _ s
  rw [rev_adjust n]
  show wpAny _ _ (pure ((n : Int) - 1, (-1 : Int), Builtin.Slice.slicePlaces ((n : Int) - 1) (-1) (-1))) _ _ s
  rw [rev_places]
  exact wpAny_pure h
theorem rev_getItem {t sl : Addr} {items : Array Value} {vl vu vs : Value} {Q : Value → Shared → Prop} (ht : IsTup s.heap t items) (hs : s.heap.IsSliceOf sl vl vu vs) (pl : IsPart vl none) (pu : IsPart vu none) (ps : IsPart vs (some (-1)))
    (h : Q (.ref s.heap.objs.size) { s with heap := s.heap.push { cls := .type "tuple", data := .seq items.toList.reverse.toArray } }) (hz : items.size ≤ sizeLine) : wpAny (model prog w) A (getItem (.ref t) (.ref sl)) Q E s := by
  have hok : sizeOk (.seq items.toList.reverse.toArray) := by
    show items.toList.reverse.toArray.size ≤ sizeLine
    rw [List.size_toArray, List.length_reverse, Array.length_toList]
    exact hz
  obtain ⟨ob, g1, g2, g3⟩ := id hs
  have hT : s.TypeIs (.ref sl) "slice" := ⟨ob, g1, g2⟩
  unfold getItem
  try with_reducible refine wpAny_holding ?_
  first | refine wpAny_bind (wpAny_pure ?_) | skip
  refine wpAny_bind (wpAny_sequenceKey ht.typeIs (by decide) ?_)
  refine wpAny_bind (wpAny_callSpecial?_slot (name := Str.ofString "__getitem__") ht.typeIs PyProof.Rows.slot_tuple_getitem
    (wpAny_call_entry PyProof.Rows.slot_tuple_getitem ht.typeIs entry_tuple_getitem ?_ (args_tuple_getitem _ _)))
  show wpAny _ _ (Builtin.Tuple.tupleItemsOf (.ref t) >>= _) _ _ s
  refine wpAny_bind (tupleItemsOf_ ht ?_)
  refine wpAny_bind (wpAny_typeOf hT ?_)
  rw [if_pos (by decide)]
  refine wpAny_bind (rev_applied hs pl pu ps ?_)
  have hno : ¬ ((((items.size : Int) - 1) == 0 && (-1 : Int) == 1 && items.size == items.size) = true) := by
    intro q
    simp at q
  show wpAny _ _ (if (((items.size : Int) - 1) == 0 && (-1 : Int) == 1 && items.size == items.size) = true then _ else _) _ _ s
  rw [if_neg hno, rev_pick]
  first
    | exact wpAny_bind (m := Builtin.Tuple.tupleExact _) (wpAny_newObj_type (wpAny_pure ⟨_, rfl, wpAny_pure h⟩) hok)
    | exact wpAny_bind (m := Builtin.Tuple.tupleExact _) (wpAny_newObj_type (wpAny_bind (wpAny_pure (wpAny_pure ⟨_, rfl, wpAny_pure h⟩))) hok)
    | exact wpAny_bind (wpAny_bind (m := Builtin.Tuple.tupleExact _) (wpAny_newObj_type (wpAny_pure (wpAny_pure ⟨_, rfl, wpAny_pure h⟩)) hok))
    | exact wpAny_bind (wpAny_bind (m := Builtin.Tuple.tupleExact _) (wpAny_newObj_type (wpAny_pure ⟨_, rfl, wpAny_pure h⟩) hok))
end
section
variable {X : Cx} {e : Expr} {te : TE} {sa : B Src} {k : Nat} {p1 p2 p3 pos : Pos}
def tRevQ (K : PySem.W.Frag) (te : TE) : TE := fun σ H Q => te σ H fun x H1 => ∃ a xs, x = .ref a ∧ ((SqL K H1 a xs ∧ ∀ p, H1 p = none → Q (.ref p) (upd H1 p (.lst xs.reverse))) ∨ (SqT K H1 a xs ∧ rTupN xs.reverse H1 Q))
theorem pe_rev (he : PE X e te) : PE X (.Subscript e (.Slice none none (some (.UnaryOp .USub (.Constant (.int 1) k p1) p2)) p3) pos) (tRevQ X.K te) := by
  refine ⟨fun pins s σ H Q I h => ?_⟩
  refine Subscript_ (thn (he.run pins s σ H _ I h) fun v s1 ⟨x, H1, I1, r1, q1⟩ => ?_)
  obtain ⟨a, xs, ex, q⟩ := q1
  subst ex
  cases r1
  have hst : PO X (some (.UnaryOp .USub (.Constant (.int 1) k p1) p2)) (tPart (tUn (rU fun i => .int (-i)) (tC (.int 1)))) := po_some (pe_un un_neg pe_int)
  refine wpAny_Slice (thn (po_none.run pins s1 σ H1 (fun o H2 => o = none ∧ H2 = H1) I1 ⟨rfl, rfl⟩) fun vl s2 ⟨l, H2, I2, pl, el, e2⟩ => ?_)
  subst el e2
  refine thn (po_none.run pins s2 σ H2 (fun o H3 => o = none ∧ H3 = H2) I2 ⟨rfl, rfl⟩) fun vu s3 ⟨u, H3, I3, pu, eu, e3⟩ => ?_
  subst eu e3
  refine thn (hst.run pins s3 σ H3 (fun o H4 => o = some (-1) ∧ H4 = H3) I3 ⟨1, rfl, -1, rfl, rfl, rfl⟩) fun vs s4 ⟨o, H4, I4, ps, eo, e4⟩ => ?_
  subst eo e4
  have I5 : Inv X pins σ H4 { s4 with heap := s4.heap.push { cls := .type "slice", data := .fields #[vl, vu, vs] } } := I4.kept (t' := s4.toks) fun b ob q => Heap.get?_push_of_some _ q
  show wpAny (model X.prog X.w) X.A (subscriptTail e (.Slice none none (some (.UnaryOp .USub (.Constant (.int 1) k p1) p2)) p3) (.ref a) (.ref s4.heap.objs.size)) (EP X pins σ Q) X.xe { s4 with heap := s4.heap.push { cls := .type "slice", data := .fields #[vl, vu, vs] } }
  rcases q with ⟨hx, q⟩ | ⟨hx, q⟩
  · obtain ⟨its, r, ht, hz⟩ := I5.list hx
    have hlen := r.length
    refine tail_any (ops := [.ref a, .ref s4.heap.objs.size]) ht.isList.typeIs (PySem.slot_list_getitem.lookup) ?_ (by with_unfolding_all rfl)
    refine wpAny_getItem_list_slice ht.isList (Heap.IsSliceOf.new _ vl vu vs) pl pu ps (by decide) ?_ (by rw [List.size_toArray]; omega)
    rw [PySem.W.krv_pick]
    refine ⟨.ref _, _, I5.laid (t' := s4.toks) (o := .lst xs.reverse) (fun b ob q => Heap.get?_push_of_some _ q) (Nat.le_refl _) ?_, rfl, q _ (I5.hok.fresh (Nat.le_refl _))⟩
    exact ⟨by rw [List.length_reverse]; exact hz, _, 0, r.reverse, Heap.get?_push_size _ rfl⟩
  · obtain ⟨its, r, ht, hz⟩ := I5.tuple hx
    have hlen := r.length
    refine tail_any (ops := [.ref a, .ref s4.heap.objs.size]) ht.typeIs (PyProof.Rows.slot_tuple_getitem.lookup) ?_ (by with_unfolding_all rfl)
    refine rev_getItem ht (Heap.IsSliceOf.new _ vl vu vs) pl pu ps ?_ (by rw [List.size_toArray]; omega)
    exact ⟨.ref _, _, FL.Inv.newTup (tk := s4.toks) (xs := xs.reverse) I5 r.reverse (by rw [List.length_reverse]; exact hz), rfl, q _ _ (I5.hok.fresh (Nat.le_refl _)) rfl⟩
def gRev : D → Option D
  | .list ds => some (.list ds.reverse)
  | .tuple ds => some (.tuple ds.reverse)
  | _ => none
def eRev (fa : B Src) : B D := do
  let x ← fa
  let d ← rd x
  lift (gRev d)
theorem fe_rev (ha : FB X e sa) : FE X (.Subscript e (.Slice none none (some (.UnaryOp .USub (.Constant (.int 1) k p1) p2)) p3) pos) (eRev sa) := by
  refine ⟨fun pa B0 W tk => ⟨fun pins s σ H Q I ⟨Z, st, k, w⟩ => (pe_rev (ha.pe pa B0 W tk)).run pins s σ H Q I ?_⟩⟩
  refine ⟨Z, st, k, (End.bind w).imp fun x s1 Z1 H1 k1 _ w1 v rv => ?_⟩
  obtain ⟨d, hd, w2⟩ := End.rd k1 rv w1
  obtain ⟨z, hz, w3⟩ := End.lift1 w2
  cases d with
  | list ds =>
    obtain ⟨p, vs, hv, hp, ra⟩ := hd.list k1.sub
    cases hz
    refine ⟨p, vs, hv, .inl ⟨.of hp, fun l hl => ?_⟩⟩
    have g := Grow.new1 k1.sub (o := .lst vs.reverse) hl
    exact w3.grow k1 g _ (.lst upd_same (ra.reverse.mono g.zz))
  | tuple ds =>
    cases hz
    obtain ⟨a, vs, rfl, hp, ra⟩ := h_tup k1.sub hd
    exact ⟨a, vs, rfl, .inr ⟨hp.sq, rTupN_of k1.sub ra.reverse fun v Z' H' g r => w3.grow k1 g v r⟩⟩
  | _ => cases hz
end

/-! ### t * k -/
theorem rep_RepA {K : PySem.W.Frag} {pa : Addr} {Z : Hp} {vs : List V} {ds : List D} (r : RepA K pa Z vs ds) : ∀ n : Nat, RepA K pa Z (List.replicate n vs).flatten (List.replicate n ds).flatten
  | 0 => .nil
  | n + 1 => by
    rw [List.replicate_succ, List.replicate_succ, List.flatten_cons, List.flatten_cons]
    exact r.append (rep_RepA r n)
def rRepZ (K : PySem.W.Frag) : R2 := fun x y H Q => ∃ l k xs, x = .ref l ∧ y = .int k ∧ SqT K H l xs ∧ xs ≠ [] ∧ 2 ≤ k ∧ k ≤ 1000 ∧ xs.length ≤ 1000 ∧ rTupN (List.replicate k.toNat xs).flatten H Q
section
variable {X : Cx}
theorem op_repZ : OpR X (binaryOp .Mult) (rRepZ X.K) := by
  intro pins s σ H x y v u Q I rx ry hq
  obtain ⟨l, k, xs, rfl, rfl, hT, hne, k2, k1000, hz, q⟩ := hq
  cases rx
  obtain ⟨t, rfl⟩ := ry
  obtain ⟨its, r, ⟨⟨cls, dd, data, sl⟩, ho, cc, n, hd⟩, hs⟩ := I.tuple hT
  simp only at cc hd
  subst cc hd
  have ln : its.length = xs.length := r.length.symm
  have he : its.toArray.isEmpty = false := by
    cases its with
    | nil => exact absurd (List.eq_nil_of_length_eq_zero ln.symm) hne
    | cons a b => rfl
  have sz : its.toArray.size = xs.length := by rw [List.size_toArray, ln]
  have big : ((its.toArray.size : Nat) : Int) * k ≤ 1000000 := by
    rw [sz]
    have := Int.mul_le_mul_of_nonneg_right (a := ((xs.length : Nat) : Int)) (b := 1000) (c := k) (by omega) (by omega)
    omega
  have fl : (List.replicate k.toNat its).flatten.length ≤ sizeLine := by
    rw [PyProof.Rows.lm_len_rep_flat, ln, sizeLine_eq]
    have := Nat.mul_le_mul (show k.toNat ≤ 1000 by omega) hz
    omega
  have e0 : (decide (k < -(2 ^ 63)) || decide (k ≥ 2 ^ 63)) = false := by rw [decide_eq_false (by omega), decide_eq_false (by omega)]; rfl
  have e1 : (its.toArray.isEmpty || k == 1) = false := by rw [he, Bool.false_or]; exact beq_eq_false_iff_ne.mpr (by omega)
  have e2 : (decide (k ≤ 0) || its.toArray.isEmpty) = false := by rw [he, Bool.or_false]; exact decide_eq_false (by omega)
  have e4 : Builtin.Tuple.tupleTooMany (((its.toArray.size : Nat) : Int) * k) = false := by
    unfold Builtin.Tuple.tupleTooMany
    rw [sizeLine_eq]
    exact decide_eq_false (by omega)
  refine wpAny_binaryOp_repeat_ref (T := "tuple") (U := "int") (by decide) ⟨_, ho, rfl⟩ (fun s' => typeIs_int s' k t) noFill_tuple_mul F.fills_int_mul F.slot_int_rmul repeat_tuple F.slot_int_index.lookup
    (call_meets F.slot_int_rmul (typeIs_int s k t) F.entry_int_rmul (F.args_int_rmul_2 _ _) (int_rmul_tuple k t l its.toArray n dd sl) ⟨ho, rfl, ⟨_, ho, rfl⟩, call_meets F.slot_tuple_mul ⟨_, ho, rfl⟩ F.entry_tuple_mul (F.args_tuple_mul_2 _ _)
      (tuple_mulW l its.toArray n dd sl k t e0 e1 e2 (by omega) e4 (by rw [size_rep, List.size_toArray]; exact fl)) ⟨ho, ?_⟩⟩)
  rw [size_rep]
  have fl2 : (List.replicate k.toNat xs).flatten.length ≤ sizeLine := by
    rw [PyProof.Rows.lm_len_rep_flat, sizeLine_eq]
    have := Nat.mul_le_mul (show k.toNat ≤ 1000 by omega) hz
    omega
  exact ⟨.ref s.heap.objs.size, _, FL.Inv.newTup (tk := s.toks) I (r.rep k.toNat) fl2, rfl, q _ _ (I.hok.fresh (Nat.le_refl _)) rfl⟩
def gMulT (d e : D) : Option D := match d, e with
  | .tuple ds, .int k => if ds ≠ [] ∧ 2 ≤ k ∧ k ≤ 1000 ∧ ds.length ≤ 1000 then some (.tuple (List.replicate k.toNat ds).flatten) else none
  | .int i, .int j => gMul (.int i) (.int j)
  | _, _ => none
theorem g_mulT {K : PySem.W.Frag} : Op2 K (fun x y H Q => rI CMul (fun i j => .int (i * j)) x y H Q ∨ rRepZ K x y H Q) gMulT := by
  intro pa x y d e z Z H Q zh rx ry hg q
  unfold gMulT at hg
  split at hg
  · rename_i ds k
    split at hg
    · rename_i c
      cases hg
      obtain ⟨a, vs, rfl, hp, ra⟩ := h_tup zh rx
      have e1 := h_int ry
      refine .inr ⟨a, k, vs, rfl, e1, hp.sq, fun e0 => c.1 ?_, c.2.1, c.2.2.1, by rw [ra.length]; exact c.2.2.2, rTupN_of zh (rep_RepA ra k.toNat) q⟩
      rw [e0] at ra
      cases ra
      rfl
    · cases hg
  · exact .inl (g_ar pa x y _ _ z Z H Q zh rx ry hg q)
  · cases hg
/-! ### [..] * k, a list of one's own -/
def gRepL : D → D → Option (List D)
  | .list ds, .int k => if -(2 ^ 63) ≤ k ∧ k < 2 ^ 63 ∧ ds.length * k.toNat ≤ sizeLine then some (List.replicate k.toNat ds).flatten else none
  | _, _ => none
def eRepL (fa : B Src) (fb : B Src) : B (List D) := do
  let x ← fa
  let y ← fb
  let d ← rd x
  let e ← rd y
  lift (gRepL d e)
variable {a b : Expr} {sa sb : B Src} {pos : Pos}
theorem fo_rep (ha : FB X a sa) (hb : FB X b sb) : FO X (.BinOp a .Mult b pos) (eRepL sa sb) := by
  refine ⟨fun pa B0 W tk => ⟨fun pins s σ H Q I ⟨Z, st, k, w⟩ => (pe_op op_rep (ha.pe pa B0 W tk) (hb.pe pa B0 W tk)).run pins s σ H Q I ?_⟩⟩
  refine ⟨Z, st, k, (End.bind w).imp fun x s1 Z1 H1 k1 _ w1 v rv => ⟨Z1, s1, k1, (End.bind w1).imp fun y s2 Z2 H2 k2 z2 w2 u ru => ?_⟩⟩
  obtain ⟨d, hd, w3⟩ := End.rd k2 (rv.mono z2.zz) w2
  obtain ⟨e, he, w4⟩ := End.rd k2 ru w3
  obtain ⟨zs, hz, w5⟩ := End.lift1 w4
  unfold gRepL at hz
  split at hz
  · rename_i ds m
    split at hz
    · rename_i hl
      cases hz
      obtain ⟨p, vs, rfl, hp, ra⟩ := hd.list k2.sub
      refine ⟨p, m, vs, rfl, h_int he, hp, hl.1, hl.2.1, by rw [ra.length]; exact hl.2.2, fun l hn => ?_⟩
      have g := Grow.new0 k2.sub (o := .lst (List.replicate m.toNat vs).flatten) hn
      have f1 := k2.fresh hn
      exact w5 _ _ (k2.grow g) (k2.ext g) l _ upd_same ⟨f1.z, f1.b, f1.own⟩ (rep_RepA ra m.toNat)
    · cases hz
  · cases hz
/-! ### {} -/
theorem fe_dic0 : FE X (.Dict [] [] pos) (eC (.dict [])) := by
  refine ⟨fun pa B0 W tk => ⟨fun pins s σ H Q I ⟨Z, st, k, w⟩ => pe_dnewK.run pins s σ H Q I ?_⟩⟩
  intro p hp
  have g := Grow.new1 k.sub (o := .dK []) hp
  exact End.grow w k g _ (.dic0 upd_same)
/-! ### len(set(t)), t a tuple of ints -/
def ddp : List Int → List Int
  | [] => []
  | a :: l => if a ∈ ddp l then ddp l else a :: ddp l
theorem ddp_spec : ∀ l : List Int, (ddp l).Nodup ∧ ∀ x, x ∈ ddp l ↔ x ∈ l
  | [] => ⟨by simp [ddp], fun x => by simp [ddp]⟩
  | a :: l => by
    obtain ⟨h1, h2⟩ := ddp_spec l
    unfold ddp
    split
    · rename_i c
      refine ⟨h1, fun x => ?_⟩
      rw [h2, List.mem_cons]
      exact ⟨.inr, fun h => h.elim (fun e => e ▸ (h2 a).mp c) id⟩
    · rename_i c
      refine ⟨List.nodup_cons.mpr ⟨c, h1⟩, fun x => ?_⟩
      rw [List.mem_cons, List.mem_cons, h2]
theorem ddp_len {out l : List Int} (hn : out.Nodup) (h : ∀ k, k ∈ out ↔ k ∈ l) : out.length = (ddp l).length :=
  ((List.perm_ext_iff_of_nodup hn (ddp_spec l).1).mpr fun x => (h x).trans ((ddp_spec l).2 x).symm).length_eq
def tLenSetT (K : PySem.W.Frag) (ta : TE) : TE := fun σ H Q => ta σ H fun x H1 => ∃ (l : Addr) (ns : List Int), x = V.ref l ∧ SqT K H1 l (ns.map V.int) ∧ ns.length ≤ 1000 ∧ Q (.int (ddp ns).length) H1
theorem pe_lenSetT {ta : TE} {p p2 q : Pos} (hc : X.calm = true) (hg : Gl X "len") (hm : X.mg "len" = none) (hg2 : Gl X "set") (hm2 : X.mg "set" = none) (ha : PE X a ta)
    (na : starEach [a] X.env = (false, eval a X.env) :: starEach [] X.env := by rfl) : PE X (.Call (.Name "len" p) [.Call (.Name "set" p2) [a] [] q] [] pos) (tLenSetT X.K ta) := by
  refine ⟨fun pins s σ H Q I hh => ?_⟩
  refine Call_ (ld_blt I hg hm PySem.boot_len ?_)
  refine PyProof.Rows.callWith_builtin1 (PyProof.Rows.args_cons ?_ rfl) rfl rfl
  refine Call_ (ld_blt I hg2 hm2 PyProof.Rows.boot_set ?_)
  refine PyProof.Rows.callWith_type1 (PyProof.Rows.args_cons (thn (ha.run pins s σ H _ I hh) fun v s1 ⟨x, H1, I1, r1, q1⟩ => PyProof.Rows.args_nil ?_) na) na rfl
  obtain ⟨l, ns, rfl, hq, h1, q1⟩ := q1
  cases r1
  obtain ⟨its, rv, pt, hz⟩ := I1.tuple hq
  have hi : IntsAre its.toArray.toList ns := ints_of_vals rv
  refine call_set_tupI ns (I1.ok.hd hc) (show s1.heap.IsTuple l its.toArray from pt) hi (by unfold scanBound; omega) fun h' tk c R1 hcn kk => ?_
  refine PyProof.Rows.args_nil ?_
  obtain ⟨o, es, ep, t, ho, hex, hdt, g, nd, hm3, hb, hf, hn, hr, hl2⟩ := R1
  have I2 : Inv X pins σ H1 { s1 with heap := h', toks := tk } := I1.kept fun b o e => kk b o e
  have hlen : es.size = (ddp ns).length := by
    rw [← ddp_len nd (fun k => by rw [← hm3 k, decide_eq_true_eq]), List.length_map, Array.length_toList]
  have hle : (ddp ns).length ≤ ns.length := List.Nodup.length_le_of_subset (ddp_spec ns).1 fun x hx => ((ddp_spec ns).2 x).mp hx
  refine call_len_set ho hex hdt hf (by rw [hlen] <;> omega) ⟨.int (ddp ns).length, H1, I2.tok _, ⟨_, by rw [hlen]⟩, q1⟩
def gLenSet : D → Option D
  | .tuple ds => (intsD ds).bind fun ns => if ns.length ≤ 1000 then some (.int (ddp ns).length) else none
  | _ => none
def eLenSet (f : B Src) : B D := do
  let x ← f
  let d ← rd x
  lift (gLenSet d)
theorem fe_lenSet {p p2 q : Pos} (hc : X.calm = true) (hg : Gl X "len") (hm : X.mg "len" = none) (hg2 : Gl X "set") (hm2 : X.mg "set" = none) (ha : FB X a sa)
    (na : starEach [a] X.env = (false, eval a X.env) :: starEach [] X.env := by rfl) : FE X (.Call (.Name "len" p) [.Call (.Name "set" p2) [a] [] q] [] pos) (eLenSet sa) := by
  refine ⟨fun pa B0 W tk => ⟨fun pins s σ H Q I ⟨Z, st, k, w⟩ => (pe_lenSetT hc hg hm hg2 hm2 (ha.pe pa B0 W tk) na).run pins s σ H Q I ?_⟩⟩
  refine ⟨Z, st, k, (End.bind w).imp fun x s1 Z1 H1 k1 _ w1 v rv => ?_⟩
  obtain ⟨d, hd, w2⟩ := End.rd k1 rv w1
  obtain ⟨z, hz, w3⟩ := End.lift1 w2
  unfold gLenSet at hz
  split at hz
  · rename_i ds
    obtain ⟨ns, hns, hz⟩ := Option.bind_eq_some_iff.mp hz
    split at hz
    · rename_i hl
      cases hz
      obtain ⟨a, vs, rfl, hp, ra⟩ := h_tup k1.sub hd
      rw [intsD_eq hns] at ra
      rw [ra.int] at hp
      exact ⟨a, ns, rfl, hp.sq, hl, End.pure w3 k1 _ (.int _)⟩
    · cases hz
  · cases hz
end

/-! ### a def that calls itself -/
theorem fss_never {X : Cx} {st : List Stmt} : FSs X st sNever := ⟨fun pa B0 W tk => ⟨fun pins s σ H En I ⟨Z, st, k, w⟩ => False.elim w⟩⟩
/-! ### tuple(range(n)) -/
section
variable {X : Cx} {a e : Expr} {fa : B D} {te : L2.St → Hp → (Int → Int → Hp → Prop) → Prop} {p p2 pos pos2 : Pos}
def tTupRz (te : L2.St → Hp → (Int → Int → Hp → Prop) → Prop) : TE := fun σ H Q => te σ H fun m n H1 => RgOk m n ∧ rTupN (rgV m n) H1 Q
theorem pe_tupRz (hc : X.calm = true) (hg : Gl X "tuple") (hm : X.mg "tuple" = none) (he : PRg X e te) (na : starEach [e] X.env = (false, eval e X.env) :: starEach [] X.env := by rfl) : PE X (.Call (.Name "tuple" p) [e] [] pos) (tTupRz te) := by
  refine ⟨fun pins s σ H Q I hh => ?_⟩
  refine Call_ (ld_blt I hg hm PyProof.Rows.boot_tuple (PyProof.Rows.callWith_type1 (PyProof.Rows.args_cons (thn (he pins s σ H _ I hh) fun x s1 ⟨r, m, n, t, u, v, H1, ex, hr, I1, ok, q⟩ => PyProof.Rows.args_nil ?_) na) na rfl))
  subst ex
  obtain ⟨b1, b2, b3, b4, b5⟩ := ok
  refine call_tuple_range (n := (n - m).toNat) (I1.ok.hd hc) hr (small_one b1 b2 b3 b4) (rangeSize_nat m n) b5 fun h' tk acc hk hi => ?_
  have I2 : Inv X pins σ H1 { s1 with heap := h', toks := tk } := I1.kept hk
  have I3 := FL.Inv.newTup (tk := tk) (xs := rgV m n) I2 (vals_rg hi) (by rw [rgV_length, sizeLine_eq]; omega)
  rw [Array.toArray_toList] at I3
  exact ⟨.ref h'.objs.size, _, I3, rfl, q _ _ (I2.hok.fresh (Nat.le_refl _)) rfl⟩
def eTR1 (f : B D) : B D := do
  let d ← f
  lift (match d with
    | .int n => if okRg 0 n then some (.tuple (rangeD 0 n)) else none
    | _ => none)
theorem fe_tr1 (hc : X.calm = true) (hgl : Gl X "tuple") (hml : X.mg "tuple" = none) (hg : Gl X "range") (hm : X.mg "range" = none) (ha : FE X a fa) (na : starEach [.Call (.Name "range" p2) [a] [] pos2] X.env = (false, eval (.Call (.Name "range" p2) [a] [] pos2) X.env) :: starEach [] X.env := by rfl)
    (nb : starEach [a] X.env = (false, eval a X.env) :: starEach [] X.env := by rfl) : FE X (.Call (.Name "tuple" p) [.Call (.Name "range" p2) [a] [] pos2] [] pos) (eTR1 fa) := by
  refine ⟨fun pa B0 W tk => ⟨fun pins s σ H Q I ⟨Z, st, k, w⟩ => (pe_tupRz hc hgl hml (prg_1 hg hm (ha.pe pa B0 W tk) nb) na).run pins s σ H Q I ?_⟩⟩
  refine ⟨Z, st, k, (End.bind w).imp fun d s1 Z1 H1 k1 _ w1 v rv => ?_⟩
  obtain ⟨z, hz, w2⟩ := End.lift1 w1
  cases d with
  | int n =>
    cases rv
    simp only at hz
    split at hz
    · rename_i hn
      cases hz
      exact ⟨n, rfl, okRg_ok hn, rTupN_of k1.sub RepA.rg fun v Z' H' g r => w2.grow k1 g v r⟩
    · cases hz
  | _ => cases hz
end
end FL
set_option maxHeartbeats 1000000
/-! FX: plain facts about the readings: numbers, tuples of numbers, loops. -/
namespace FL
open PySem PySem.Spec PyProof.Rows L2

/-! ### loops -/
theorem forB_nil {a : Asg} {g : B Fl} {s : S} : forB a g [] s = .ok .nx s := rfl
theorem forB_cons {a : Asg} {g : B Fl} {d : D} {ds : List D} {s : S} : forB a g (d :: ds) s = match a d s with
    | .ok _ s1 => (g s1).bind fun fl s2 => match fl with
      | .nx => forB a g ds s2
      | .ct => forB a g ds s2
      | .bk => .ok .nx s2
      | .rt v => .ok (.rt v) s2
    | _ => .bad := rfl
/-- a loop that runs to its end -/
theorem forB_inv {a : Asg} {g : B Fl} (I : Nat → S → Prop) : ∀ (ds : List D) (n : Nat) (s : S), I n s →
    (∀ i d s, ds[i]? = some d → I (n + i) s → ∃ s1 s2, a d s = .ok () s1 ∧ (g s1 = .ok .nx s2 ∨ g s1 = .ok .ct s2) ∧ I (n + i + 1) s2) → ∃ s', forB a g ds s = .ok .nx s' ∧ I (n + ds.length) s'
  | [], n, s, h0, _ => ⟨s, rfl, h0⟩
  | d :: ds, n, s, h0, st => by
    obtain ⟨s1, s2, e1, e2, h2⟩ := st 0 d s rfl h0
    obtain ⟨s', e3, h3⟩ := forB_inv I ds (n + 1) s2 h2 fun i d s hd hi => by
      have := st (i + 1) d s (by simpa using hd) (by rw [show n + (i + 1) = n + 1 + i by omega]; exact hi)
      rw [show n + (i + 1) + 1 = n + 1 + i + 1 by omega] at this
      exact this
    refine ⟨s', ?_, by rw [List.length_cons, show n + (ds.length + 1) = n + 1 + ds.length by omega]; exact h3⟩
    rw [forB_cons, e1]
    rcases e2 with e2 | e2 <;> (simp only [e2]; exact e3)
theorem sFor_inv {fi : B (List D)} {a : Asg} {g : B Fl} {s s1 : S} {ds : List D} (I : Nat → S → Prop) (hf : fi s = .ok ds s1) (h0 : I 0 s1)
    (st : ∀ i d s, ds[i]? = some d → I i s → ∃ s1 s2, a d s = .ok () s1 ∧ (g s1 = .ok .nx s2 ∨ g s1 = .ok .ct s2) ∧ I (i + 1) s2) : ∃ s', sFor fi a g s = .ok .nx s' ∧ I ds.length s' := by
  obtain ⟨s', h1, h2⟩ := forB_inv (a := a) (g := g) I ds 0 s1 h0 fun i d s hd hi => by
    rw [Nat.zero_add] at hi ⊢
    exact st i d s hd hi
  rw [Nat.zero_add] at h2
  refine ⟨s', ?_, h2⟩
  unfold sFor
  rw [hf]
  exact h1
/-- a comprehension whose turns may move the pool -/
theorem lcB_inv {own : List Nat} {a : Asg} {c : B Bool} {g : B D} {env : List Sl} (I : Nat → List D → Option (List Int) → Prop) : ∀ (ds : List D) (n : Nat) (acc : List D) (p : Option (List Int)), I n acc p →
    (∀ i d acc p, ds[i]? = some d → I (n + i) acc p → ∃ o s1, turnB a c g d ⟨wipeE env own, p⟩ = .ok o s1 ∧ s1.pool.isSome = p.isSome ∧ backE env s1.env own = env ∧ I (n + i + 1) (acc ++ o.toList) s1.pool) →
    ∃ ys p', lcB own a c g ds ⟨env, p⟩ = .ok ys ⟨env, p'⟩ ∧ I (n + ds.length) (acc ++ ys) p'
  | [], n, acc, p, h0, _ => ⟨[], p, rfl, by rw [List.append_nil]; exact h0⟩
  | d :: ds, n, acc, p, h0, st => by
    obtain ⟨o, s1, e1, e2, e3, h2⟩ := st 0 d acc p rfl h0
    obtain ⟨ys, p', e4, h4⟩ := lcB_inv (own := own) (a := a) (c := c) (g := g) (env := env) I ds (n + 1) _ _ h2 fun i d acc p hd hi => by
      have := st (i + 1) d acc p (by simpa using hd) (by rw [show n + (i + 1) = n + 1 + i by omega]; exact hi)
      rw [show n + (i + 1) + 1 = n + 1 + i + 1 by omega] at this
      exact this
    refine ⟨o.toList ++ ys, p', ?_, by rw [List.length_cons, show n + (ds.length + 1) = n + 1 + ds.length by omega, ← List.append_assoc]; exact h4⟩
    unfold lcB
    rw [e1]
    show ((backS ⟨env, p⟩ own s1).bind _) = _
    unfold backS
    rw [if_pos (by exact e2)]
    show ((lcB own a c g ds ⟨backE env s1.env own, s1.pool⟩).bind _) = _
    rw [e3, e4]
    cases o <;> rfl
theorem eLc_inv {fi : B (List D)} {own : List Nat} {a : Asg} {c : B Bool} {g : B D} {s : S} {env : List Sl} {p : Option (List Int)} {ds : List D} (I : Nat → List D → Option (List Int) → Prop) (hf : fi s = .ok ds ⟨env, p⟩) (h0 : I 0 [] p)
    (st : ∀ i d acc p, ds[i]? = some d → I i acc p → ∃ o s1, turnB a c g d ⟨wipeE env own, p⟩ = .ok o s1 ∧ s1.pool.isSome = p.isSome ∧ backE env s1.env own = env ∧ I (i + 1) (acc ++ o.toList) s1.pool) (hz : ∀ ys p, I ds.length ys p → ys.length ≤ sizeLine) :
    ∃ ys p', eLc fi own a c g s = .ok ys ⟨env, p'⟩ ∧ I ds.length ys p' := by
  obtain ⟨ys, p', h1, h2⟩ := lcB_inv (own := own) (a := a) (c := c) (g := g) (env := env) I ds 0 [] p h0 fun i d acc p hd hi => by
    rw [Nat.zero_add] at hi ⊢
    exact st i d acc p hd hi
  rw [Nat.zero_add, List.nil_append] at h2
  refine ⟨ys, p', ?_, h2⟩
  unfold eLc
  rw [hf]
  show ((lcB own a c g ds ⟨env, p⟩).bind _) = _
  rw [h1]
  show FL.lift (few ys) _ = _
  unfold few
  rw [if_pos (hz ys p' h2)]
  rfl
/-- a comprehension that only computes -/
theorem eLc_pure {fi : B (List D)} {own : List Nat} {a : Asg} {c : B Bool} {g : B D} {s : S} {env : List Sl} {p : Option (List Int)} {ds : List D} (o : Nat → D → Option D) (hf : fi s = .ok ds ⟨env, p⟩)
    (st : ∀ i d, ds[i]? = some d → ∃ e1, turnB a c g d ⟨wipeE env own, p⟩ = .ok (o i d) ⟨e1, p⟩ ∧ backE env e1 own = env) (hz : ds.length ≤ sizeLine) :
    eLc fi own a c g s = .ok ((List.zipIdx ds).filterMap fun x => o x.2 x.1) ⟨env, p⟩ := by
  have flen : ∀ (l : List (D × Nat)), (l.filterMap fun x => o x.2 x.1).length ≤ l.length := fun l => List.length_filterMap_le _ _
  obtain ⟨ys, p', h1, h2⟩ := eLc_inv (fi := fi) (own := own) (a := a) (c := c) (g := g) (s := s) (fun i acc q => q = p ∧ acc = ((List.zipIdx ds).take i).filterMap fun x => o x.2 x.1) hf ⟨rfl, rfl⟩ (fun i d acc q hd hi => by
    obtain ⟨rfl, rfl⟩ := hi
    obtain ⟨e1, h1, h2⟩ := st i d hd
    refine ⟨_, _, h1, rfl, h2, rfl, ?_⟩
    have hz : (List.zipIdx ds)[i]? = some (d, i) := by rw [List.getElem?_zipIdx, hd]; simp
    rw [List.take_add_one, hz, List.filterMap_append]
    simp only [Option.toList, List.filterMap_cons, List.filterMap_nil]
    cases o i d <;> rfl) (fun ys q h => by
      obtain ⟨_, rfl⟩ := h
      refine Nat.le_trans (flen _) ?_
      rw [List.length_take, List.length_zipIdx, Nat.min_self]
      exact hz)
  obtain ⟨rfl, rfl⟩ := h2
  rw [h1]
  have e : (List.zipIdx ds).take ds.length = List.zipIdx ds := List.take_of_length_le (by rw [List.length_zipIdx]; exact Nat.le_refl _)
  rw [e]
theorem eLc_map {fi : B (List D)} {own : List Nat} {a : Asg} {c : B Bool} {g : B D} {s : S} {env : List Sl} {p : Option (List Int)} {ds : List D} (f : D → D) (hf : fi s = .ok ds ⟨env, p⟩)
    (st : ∀ d ∈ ds, ∃ e1, turnB a c g d ⟨wipeE env own, p⟩ = .ok (some (f d)) ⟨e1, p⟩ ∧ backE env e1 own = env) (hz : ds.length ≤ sizeLine) :
    eLc fi own a c g s = .ok (ds.map f) ⟨env, p⟩ := by
  rw [eLc_pure (fun _ d => some (f d)) hf (fun i d hd => st d (List.mem_of_getElem? hd)) hz]
  congr 1
  have : (fun x : D × Nat => some (f x.1)) = some ∘ (fun x => f x.1) := rfl
  rw [this, List.filterMap_eq_map, ← Function.comp_def f Prod.fst, ← List.map_map, List.zipIdx_map_fst]
theorem eLc_filter {fi : B (List D)} {own : List Nat} {a : Asg} {c : B Bool} {g : B D} {s : S} {env : List Sl} {p : Option (List Int)} {ds : List D} (o : D → Option D) (hf : fi s = .ok ds ⟨env, p⟩)
    (st : ∀ d ∈ ds, ∃ e1, turnB a c g d ⟨wipeE env own, p⟩ = .ok (o d) ⟨e1, p⟩ ∧ backE env e1 own = env) (hz : ds.length ≤ sizeLine) :
    eLc fi own a c g s = .ok (ds.filterMap o) ⟨env, p⟩ := by
  rw [eLc_pure (fun _ d => o d) hf (fun i d hd => st d (List.mem_of_getElem? hd)) hz]
  congr 1
  have : (fun x : D × Nat => o x.1) = o ∘ Prod.fst := rfl
  rw [this, ← List.filterMap_map, List.zipIdx_map_fst]
theorem turn_yes {a : Asg} {c : B Bool} {g : B D} {d y : D} {s s1 s2 s3 : S} (h1 : a d s = .ok () s1) (h2 : c s1 = .ok true s2) (h3 : g s2 = .ok y s3) : turnB a c g d s = .ok (some y) s3 := by
  unfold turnB
  simp only [h1, h2, h3]
theorem turn_no {a : Asg} {c : B Bool} {g : B D} {d : D} {s s1 s2 : S} (h1 : a d s = .ok () s1) (h2 : c s1 = .ok false s2) : turnB a c g d s = .ok none s2 := by
  unfold turnB
  simp only [h1, h2]

/-! ### numbers and tuples of numbers -/
def nD (k : Nat) : D := .int (k : Int)
def tN (l : List Nat) : D := .tuple (l.map nD)
def tTT (ls : List (List Nat)) : D := .tuple (ls.map tN)
theorem lay_nD : ∀ l : List Nat, PyData.canLayAll0 (l.map nD) = true
  | [] => rfl
  | k :: l => by simp [PyData.canLayAll0, nD, PyData.canLay0, lay_nD l]
theorem dep_nD : ∀ l : List Nat, PyData.depthAll (l.map nD) = 0
  | [] => rfl
  | k :: l => by simp [PyData.depthAll, nD, PyData.depth, dep_nD l]
theorem lay_tN (l : List Nat) : (tN l).canLay0 = true := by simp [tN, PyData.canLay0, lay_nD]
theorem dep_tN (l : List Nat) : (tN l).depth = 1 := by simp [tN, PyData.depth, dep_nD]
theorem lay_tT : ∀ l : List (List Nat), PyData.canLayAll0 (l.map tN) = true
  | [] => rfl
  | k :: l => by simp [PyData.canLayAll0, lay_tN, lay_tT l]
theorem dep_tT : ∀ l : List (List Nat), PyData.depthAll (l.map tN) ≤ 1
  | [] => by simp [PyData.depthAll]
  | k :: l => by
    have := dep_tT l
    simp only [List.map_cons, PyData.depthAll, dep_tN]
    omega
theorem sh_i (i : Int) : SeqAt.shaped (.int i) = true := by simp [SeqAt.shaped, PyData.canLay0, PyData.depth]
theorem sh_b (b : Bool) : SeqAt.shaped (.bool b) = true := by simp [SeqAt.shaped, PyData.canLay0, PyData.depth]
theorem sh_n (k : Nat) : SeqAt.shaped (nD k) = true := sh_i _
theorem sh_tN (l : List Nat) : SeqAt.shaped (tN l) = true := by simp [SeqAt.shaped, lay_tN, dep_tN]
theorem sh_lN (l : List Nat) : SeqAt.shaped (.list (l.map nD)) = true := by simp [SeqAt.shaped, PyData.canLay0, PyData.depth, lay_nD, dep_nD]
theorem sh_tT (l : List (List Nat)) : SeqAt.shaped (tTT l) = true := by
  have := dep_tT l
  unfold SeqAt.shaped tTT
  rw [Bool.and_eq_true]
  exact ⟨by simp only [PyData.canLay0, lay_tT], by simp only [PyData.depth]; exact decide_eq_true (by omega)⟩
theorem sh_lT (l : List (List Nat)) : SeqAt.shaped (.list (l.map tN)) = true := by
  have := dep_tT l
  unfold SeqAt.shaped
  rw [Bool.and_eq_true]
  exact ⟨by simp only [PyData.canLay0, lay_tT], by simp only [PyData.depth]; exact decide_eq_true (by omega)⟩
theorem eqv_i (a b : Int) : PyData.eqv (.int a) (.int b) = decide (a = b) := by
  simp only [PyData.eqv]
  by_cases h : a = b <;> simp [h]
theorem eqv_n (a b : Nat) : PyData.eqv (nD a) (nD b) = decide (a = b) := by
  rw [nD, nD, eqv_i]
  by_cases h : a = b
  · simp [h]
  · rw [decide_eq_false h, decide_eq_false (by omega)]
theorem eqvA_n : ∀ l m : List Nat, PyData.eqvAll (l.map nD) (m.map nD) = decide (l = m)
  | [], [] => by simp [PyData.eqvAll]
  | [], _ :: _ => by simp [PyData.eqvAll]
  | _ :: _, [] => by simp [PyData.eqvAll]
  | a :: l, b :: m => by
    simp only [List.map_cons, PyData.eqvAll, eqv_n, eqvA_n l m]
    by_cases h : a = b <;> by_cases h2 : l = m <;> simp [h, h2]
theorem eqv_tN (l m : List Nat) : PyData.eqv (tN l) (tN m) = decide (l = m) := by simp only [tN, PyData.eqv, eqvA_n]
theorem eqv_lN (l m : List Nat) : PyData.eqv (.list (l.map nD)) (.list (m.map nD)) = decide (l = m) := by simp only [PyData.eqv, eqvA_n]
theorem gIx_t (ds : List D) (i : Nat) : gIx (.tuple ds) (nD i) = ds[i]? := by
  simp only [gIx, nD, atI, ixN]
  rw [if_pos (Int.natCast_nonneg i)]
  by_cases h : (i : Int) < (ds.length : Nat)
  · rw [if_pos h]; simp
  · rw [if_neg h, List.getElem?_eq_none (by omega)]; rfl
theorem gIx_l (ds : List D) (i : Nat) : gIx (.list ds) (nD i) = ds[i]? := gIx_t ds i
theorem findD_n (k : Nat) : ∀ l : List Nat, k ∈ l → findD (nD k) (l.map nD) = some (l.idxOf k)
  | [], h => by simp at h
  | a :: l, h => by
    simp only [List.map_cons, findD, eqv_n]
    by_cases e : a = k
    · subst e; simp
    · have h' : k ∈ l := by
        rcases List.mem_cons.mp h with h | h
        · exact absurd h.symm e
        · exact h
      rw [if_neg (by simp [e]), findD_n k l h', List.idxOf_cons, show (a == k) = false from beq_false_of_ne e]
      rfl
theorem countP_n (k : Nat) (l : List Nat) : (l.map nD).countP (fun z => PyData.eqv z (nD k)) = l.count k := by
  rw [List.countP_map, List.count_eq_countP]
  congr 1
  funext x
  simp only [Function.comp, eqv_n]
  by_cases h : x = k <;> simp [h]
theorem gIndex_t {k : Nat} {l : List Nat} (h : k ∈ l) : gIndex (tN l) (nD k) = some (nD (l.idxOf k)) := by
  unfold gIndex
  have e : itemsOf (tN l) = some (l.map nD) := rfl
  rw [e]
  simp only [Option.bind_some, sh_tN, sh_n, and_self, if_true, findD_n k l h]
  rfl
theorem gCount_l (k : Nat) (l : List Nat) : gCount (.list (l.map nD)) (nD k) = some (nD (l.count k)) := by
  unfold gCount
  have e : itemsOf (.list (l.map nD)) = some (l.map nD) := rfl
  rw [e]
  simp only [Option.bind_some, sh_lN, sh_n, and_self, if_true, countP_n]
  rfl
theorem rangeD_n (n : Nat) : rangeD 0 (n : Nat) = (List.range n).map nD := by
  unfold rangeD
  have : ((n : Int) - 0).toNat = n := by omega
  rw [this]
  apply List.map_congr_left
  intro i _
  simp [nD]
theorem okSort_n (l : List Nat) : okSort (l.map nD) = true := by
  unfold okSort
  rw [Bool.and_eq_true, Bool.or_eq_true]
  refine ⟨List.all_eq_true.mpr fun x hx => List.all_eq_true.mpr fun y hy => ?_, .inl (List.all_eq_true.mpr fun x hx => ?_)⟩
  · obtain ⟨a, _, rfl⟩ := List.mem_map.mp hx
    obtain ⟨b, _, rfl⟩ := List.mem_map.mp hy
    simp [nD, PySem.W.alike]
  · obtain ⟨a, _, rfl⟩ := List.mem_map.mp hx
    simp [nD, notTup]
theorem dataLt_i (a b : Int) : PySem.W.dataLt (.int a) (.int b) = decide (a < b) := by
  have h := PySem.W.dataLe_int (β := Int) (fun x => x)
  rw [PySem.W.dataLe_eq] at h
  have h2 := congrFun (congrFun h b) a
  simp only [cond_false] at h2
  cases e : PySem.W.dataLt (.int a) (.int b) with
  | true =>
    rw [e] at h2
    have : ¬ b ≤ a := by simpa using h2.symm
    exact (decide_eq_true (by omega)).symm
  | false =>
    rw [e] at h2
    have : b ≤ a := by simpa using h2.symm
    exact (decide_eq_false (by omega)).symm
theorem dataLe_n (a b : Nat) : PySem.W.dataLe false id (nD a) (nD b) = decide (a ≤ b) := by
  rw [PySem.W.dataLe_eq]
  show (!PySem.W.dataLt (nD b) (nD a)) = _
  rw [nD, nD, dataLt_i]
  by_cases h : a ≤ b
  · rw [decide_eq_true h, decide_eq_false (by omega)]; rfl
  · rw [decide_eq_false h, decide_eq_true (by omega)]; rfl
theorem sortD_n (l : List Nat) : sortD (l.map nD) = (l.mergeSort fun a b => decide (a ≤ b)).map nD := by
  unfold sortD
  rw [List.map_mergeSort]
  intro a _ b _
  exact (dataLe_n a b).symm
theorem sort_perm_range {l : List Nat} {n : Nat} (h : l.Perm (List.range n)) : (l.mergeSort fun a b => decide (a ≤ b)) = List.range n := by
  refine List.Perm.eq_of_pairwise (le := fun a b => a ≤ b) (fun a b _ _ h1 h2 => Nat.le_antisymm h1 h2) ?_ ?_ ((List.mergeSort_perm _ _).trans h)
  · have := List.pairwise_mergeSort (le := fun a b : Nat => decide (a ≤ b)) (fun a b c h1 h2 => by simp at h1 h2 ⊢; omega) (fun a b => by simp; omega) l
    exact this.imp fun h => of_decide_eq_true h
  · exact List.pairwise_lt_range.imp fun h => Nat.le_of_lt h

/-! ### lists -/
theorem erase_map {α β : Type} (f : α → β) : ∀ (l : List α) (k : Nat), (l.map f).eraseIdx k = (l.eraseIdx k).map f
  | [], k => by simp
  | a :: l, 0 => by simp
  | a :: l, k + 1 => by simp [erase_map f l k]
theorem erase_perm {α : Type} : ∀ (l : List α) (k : Nat) (h : k < l.length), (l[k] :: l.eraseIdx k).Perm l
  | [], k, h => by simp at h
  | a :: l, 0, h => by simp
  | a :: l, k + 1, h => by
    have h' : k < l.length := by simpa using h
    have := erase_perm l k h'
    simp only [List.getElem_cons_succ, List.eraseIdx_cons_succ]
    exact (List.Perm.swap a l[k] _).trans (List.Perm.cons a this)
theorem seqI {k n : Nat} (h : k < n) : seqIndex? (k : Int) n = some k := by
  unfold seqIndex?
  have h0 : ¬ ((k : Int) < 0) := by omega
  simp only [h0, if_false]
  rw [if_pos (by simp; omega)]
  simp
theorem okR {n : Nat} (h : n ≤ 16777216) : okRg 0 (n : Int) = true := decide_eq_true ⟨by omega, by omega, by omega, by omega, by omega⟩
theorem few_n {ds : List D} (h : ds.length ≤ 16777216) : few ds = some ds := if_pos (by rw [sizeLine_eq]; exact h)
theorem add_tt {a b : List D} (h : a.length + b.length ≤ 16777216) : gAdd (.tuple a) (.tuple b) = some (.tuple (a ++ b)) := if_pos (by rw [sizeLine_eq]; exact h)
theorem add_ll {a b : List D} (h : a.length + b.length ≤ 16777216) : gAdd (.list a) (.list b) = some (.list (a ++ b)) := if_pos (by rw [sizeLine_eq]; exact h)
theorem in62 {n : Nat} (h : n ≤ 16777216) : -(2 ^ 62) ≤ (n : Int) ∧ (n : Int) < 2 ^ 62 := ⟨by omega, by omega⟩
theorem in63 {n : Nat} (h : n ≤ 16777216) : -(2 ^ 63) ≤ (n : Int) ∧ (n : Int) < 2 ^ 63 := ⟨by omega, by omega⟩
theorem iR1_i {f : B D} {s s1 : S} {i : Int} (hf : f s = .ok (.int i) s1) (h : -(2 ^ 62) ≤ i ∧ i < 2 ^ 62) : iR1 f s = .ok (rangeD 0 i) s1 := by
  unfold iR1
  rw [bind_def, hf]
  simp only [R.bind]
  rw [if_pos h]
  simp only [FL.lift]
theorem iR1_n {f : B D} {s s1 : S} {n : Nat} (hf : f s = .ok (.int (n : Nat)) s1) (h : n ≤ 16777216) : iR1 f s = .ok ((List.range n).map nD) s1 := by
  rw [iR1_i hf (in62 h), rangeD_n]
theorem eLR1_i {f : B D} {s s1 : S} {i : Int} (hf : f s = .ok (.int i) s1) (h : okRg 0 i = true) : eLR1 f s = .ok (rangeD 0 i) s1 := by
  unfold eLR1
  rw [bind_def, hf]
  simp only [R.bind]
  rw [if_pos h]
  simp only [FL.lift]
theorem eLR1_n {f : B D} {s s1 : S} {n : Nat} (hf : f s = .ok (.int (n : Nat)) s1) (h : n ≤ 16777216) : eLR1 f s = .ok ((List.range n).map nD) s1 := by
  rw [eLR1_i hf (okR h), rangeD_n]
/-- x.pop(e) -/
theorem popAt_n {i : Nat} {f : B D} {s s1 : S} {xs : List D} {k : Nat} {y : D} (h0 : (ownAt i s).isSome = true) (hf : f s = .ok (nD k) s1) (h1 : ownAt i s1 = some xs) (hy : xs[k]? = some y) (hk : xs.length ≤ 16777216) : ePopAt i f s = .ok y (putAt i (xs.eraseIdx k) s1) := by
  have hlt : k < xs.length := (List.getElem?_eq_some_iff.mp hy).1
  unfold ePopAt
  obtain ⟨zs, hz⟩ := Option.isSome_iff_exists.mp h0
  rw [hz]
  simp only [hf, h1, nD, R.bind]
  have hb := in63 (n := k) (by omega)
  rw [if_pos hb, seqI hlt]
  simp only [hy]
/-- a comprehension told by place -/
theorem eLc_idx {fi : B (List D)} {own : List Nat} {a : Asg} {c : B Bool} {g : B D} {s : S} {env : List Sl} {p : Option (List Int)} {ds : List D} (f : Nat → D) (hf : fi s = .ok ds ⟨env, p⟩)
    (st : ∀ i d, ds[i]? = some d → ∃ e1, turnB a c g d ⟨wipeE env own, p⟩ = .ok (some (f i)) ⟨e1, p⟩ ∧ backE env e1 own = env) (hz : ds.length ≤ sizeLine) :
    eLc fi own a c g s = .ok ((List.range ds.length).map f) ⟨env, p⟩ := by
  rw [eLc_pure (fun i _ => some (f i)) hf st hz]
  congr 1
  have e1 : (fun x : D × Nat => some (f x.2)) = some ∘ (f ∘ Prod.snd) := rfl
  rw [e1, List.filterMap_eq_map, ← List.map_map, List.zipIdx_map_snd, List.range_eq_range']
theorem gAny_bl (al : Bool) (bs : List Bool) : gAny al [.list (bs.map PyData.bool)] = some (.bool (if al then bs.all id else bs.any id)) := by
  simp only [gAny, itemsOf, Option.bind_some, blsD_map, Option.map_some]
theorem gSort_tN {l : List Nat} {n : Nat} (h : l.Perm (List.range n)) : gSort [tN l] = some ((List.range n).map nD) := by
  have e : itemsOf (tN l) = some (l.map nD) := rfl
  simp only [gSort, e, Option.bind_some, okSort_n, sh_tN, and_self, if_true, sortD_n, sort_perm_range h]
theorem gSum_tN (l : List Nat) : gSum [tN l] = some (nD l.sum) := by
  have e : itemsOf (tN l) = some (l.map nD) := rfl
  have e2 : l.map nD = (l.map fun k : Nat => (k : Int)).map PyData.int := by rw [List.map_map]; rfl
  rw [e2] at e
  simp only [gSum, e, Option.bind_some, intsD_map, Option.map_some, nD]
  congr 2
  clear e e2
  induction l with
  | nil => rfl
  | cons a l ih => simp [ih]
end FL
set_option maxHeartbeats 1000000
/-! FV: the readings, one step at a time, at a state that is told. -/
namespace FL
open PySem PySem.Spec PyProof.Rows L2
section
variable {σ α β : Type} {env : List Sl} {p : Option (List Int)} {s : S} {d e : D} {ds es : List D} {f fa fb fc : B D} {sa sb : B Src} {ta tb : B Bool} {g h : B Fl} {fl fl2 : B (List D)} {fm : B (List Sl)} {fp fq : B (Option Int)} {fs : B (List Src)} {i : Nat}
theorem bind_ok {a : α} {s : σ} {k : α → σ → R σ β} : (R.ok a s).bind k = k a s := rfl
theorem bind_ex {a : Exn} {s : σ} {k : α → σ → R σ β} : (R.ex a s : R σ α).bind k = .ex a s := rfl
theorem bind_bad {k : α → σ → R σ β} : (R.bad : R σ α).bind k = .bad := rfl
theorem lift_a {a : α} : FL.lift (some a) s = .ok a s := rfl
theorem eC_a : eC d ⟨env, p⟩ = .ok d ⟨env, p⟩ := rfl
theorem eV_a : eV i ⟨env, p⟩ = match env[i]? with
  | some (.v d) => .ok d ⟨env, p⟩
  | some (.l xs) => .ok (.list xs) ⟨env.set i (.v (.list xs)), p⟩
  | _ => .bad := rfl
theorem eN_a : eN i ⟨env, p⟩ = match env[i]? with
  | some (.v d) => .ok (.d d) ⟨env, p⟩
  | some (.l _) => .ok (.i i) ⟨env, p⟩
  | _ => .bad := rfl
theorem eP_p (h : env[i]? = some (.v poolD)) : eP i ⟨env, p⟩ = .ok .p ⟨env, p⟩ := by unfold eP; simp only [h, poolD]
theorem rd_d : rd (.d d) s = .ok d s := rfl
theorem rd_i : rd (.i i) ⟨env, p⟩ = match env[i]? with
    | some (.l xs) => .ok (.list xs) ⟨env, p⟩
    | some (.v d) => .ok d ⟨env, p⟩
    | _ => .bad := rfl
theorem rd_p {ps : List Int} : rd .p ⟨env, some ps⟩ = .ok (.list (ps.map PyData.int)) ⟨env, some ps⟩ := rfl
theorem toSrc_a : toSrc f ⟨env, p⟩ = (f ⟨env, p⟩).bind fun d s1 => .ok (.d d) s1 := rfl
theorem e1_a {o : D → Option D} : FL.e1 o f ⟨env, p⟩ = (f ⟨env, p⟩).bind fun x s1 => FL.lift (o x) s1 := rfl
theorem e2_a {o : D → D → Option D} : FL.e2 o fa fb ⟨env, p⟩ = (fa ⟨env, p⟩).bind fun x s1 => (fb s1).bind fun y s2 => FL.lift (o x y) s2 := rfl
theorem eCmp_a {o : D → D → Option Bool} : eCmp o sa sb ⟨env, p⟩ = (sa ⟨env, p⟩).bind fun x s1 => (sb s1).bind fun y s2 => (rd x s2).bind fun d s3 => (rd y s3).bind fun e s4 => FL.lift (o d e) s4 := rfl
theorem eBool_a : eBool ta ⟨env, p⟩ = (ta ⟨env, p⟩).bind fun b s1 => .ok (.bool b) s1 := rfl
theorem eChain_a {o o' : D → D → Option Bool} : eChain o o' fa fb fc ⟨env, p⟩ = (fa ⟨env, p⟩).bind fun x s1 => (fb s1).bind fun y s2 => (FL.lift (o x y) s2).bind fun k s3 => (if k then (do
    let z ← fc
    FL.lift (o' y z) : B Bool) else pure false) s3 := rfl
theorem eChain_t {o : D → Option Bool} : ((do
    let z ← fc
    FL.lift (o z)) : B Bool) s = (fc s).bind fun z s1 => FL.lift (o z) s1 := rfl
theorem pure_a {a : α} : (pure a : B α) s = .ok a s := rfl
theorem eTruth_a : eTruth sa ⟨env, p⟩ = (sa ⟨env, p⟩).bind fun x s1 => (rd x s1).bind fun d s2 => FL.lift (truth d) s2 := rfl
theorem bNot_a : bNot ta ⟨env, p⟩ = (ta ⟨env, p⟩).bind fun b s1 => .ok (!b) s1 := rfl
theorem bAnd_a : bAnd ta tb ⟨env, p⟩ = (ta ⟨env, p⟩).bind fun b s1 => if b then tb s1 else .ok false s1 := by
  show (ta _).bind _ = _
  congr 1
  funext b s
  cases b <;> rfl
theorem bOr_a : bOr ta tb ⟨env, p⟩ = (ta ⟨env, p⟩).bind fun b s1 => if b then .ok true s1 else tb s1 := by
  show (ta _).bind _ = _
  congr 1
  funext b s
  cases b <;> rfl
theorem bYes_a : bYes ⟨env, p⟩ = .ok true ⟨env, p⟩ := rfl
theorem eIf_a : eIf ta fa fb ⟨env, p⟩ = (ta ⟨env, p⟩).bind fun b s1 => if b then fa s1 else fb s1 := by
  show (ta _).bind _ = _
  congr 1
  funext b s
  cases b <;> rfl
theorem vAnd_a : vAnd fa fb ⟨env, p⟩ = (fa ⟨env, p⟩).bind fun x s1 => (FL.lift (asBool x) s1).bind fun b s2 => if b then fb s2 else .ok (.bool false) s2 := by
  show (fa _).bind _ = _
  congr 1
  funext x s
  show (FL.lift (asBool x) s).bind _ = _
  congr 1
  funext b s
  cases b <;> rfl
theorem vOr_a : vOr fa fb ⟨env, p⟩ = (fa ⟨env, p⟩).bind fun x s1 => (FL.lift (asBool x) s1).bind fun b s2 => if b then .ok (.bool true) s2 else fb s2 := by
  show (fa _).bind _ = _
  congr 1
  funext x s
  show (FL.lift (asBool x) s).bind _ = _
  congr 1
  funext b s
  cases b <;> rfl
theorem asBool_a {b : Bool} : asBool (.bool b) = some b := rfl
theorem eNil_a : eNil ⟨env, p⟩ = .ok [] ⟨env, p⟩ := rfl
theorem eCons_a : eCons f fl ⟨env, p⟩ = (f ⟨env, p⟩).bind fun x s1 => (fl s1).bind fun xs s2 => .ok (x :: xs) s2 := rfl
theorem eTup_a : eTup fl ⟨env, p⟩ = (fl ⟨env, p⟩).bind fun ds s1 => (FL.lift (few ds) s1).bind fun es s2 => .ok (.tuple es) s2 := rfl
theorem eLst_a : eLst fl ⟨env, p⟩ = (fl ⟨env, p⟩).bind fun ds s1 => FL.lift (few ds) s1 := rfl
theorem eL_a : eL fl ⟨env, p⟩ = (fl ⟨env, p⟩).bind fun ds s1 => .ok (.list ds) s1 := rfl
theorem eIx_a : eIx sa fb ⟨env, p⟩ = (sa ⟨env, p⟩).bind fun x s1 => (fb s1).bind fun j s2 => (rd x s2).bind fun d s3 => FL.lift (gIx d j) s3 := rfl
theorem eSl_a : eSl sa fp fq ⟨env, p⟩ = (sa ⟨env, p⟩).bind fun x s1 => (fp s1).bind fun lo s2 => (fq s2).bind fun hi s3 => (rd x s3).bind fun d s4 => FL.lift (gSl lo hi d) s4 := rfl
theorem pNo_a : pNo ⟨env, p⟩ = .ok none ⟨env, p⟩ := rfl
theorem pSo_a : pSo f ⟨env, p⟩ = (f ⟨env, p⟩).bind fun d s1 => (FL.lift (asInt d) s1).bind fun i s2 => .ok (some i) s2 := rfl
theorem asInt_a {j : Int} : asInt (.int j) = some j := rfl
theorem sNil_a : sNil ⟨env, p⟩ = .ok [] ⟨env, p⟩ := rfl
theorem sCons_a : sCons sa fs ⟨env, p⟩ = (sa ⟨env, p⟩).bind fun x s1 => (fs s1).bind fun xs s2 => .ok (x :: xs) s2 := rfl
theorem rdA_n : rdA [] s = .ok [] s := rfl
theorem rdA_c {x : Src} {xs : List Src} : rdA (x :: xs) s = (rd x s).bind fun d s1 => (rdA xs s1).bind fun ds s2 => .ok (d :: ds) s2 := rfl
theorem eCall1_a {o : List D → Option D} : eCall1 o fs ⟨env, p⟩ = (fs ⟨env, p⟩).bind fun xs s1 => (rdA xs s1).bind fun ds s2 => FL.lift (o ds) s2 := rfl
theorem eCallL_a {o : List D → Option (List D)} : eCallL o fs ⟨env, p⟩ = (fs ⟨env, p⟩).bind fun xs s1 => (rdA xs s1).bind fun ds s2 => FL.lift (o ds) s2 := rfl
theorem eIsi_a {T : String} : eIsi T sa ⟨env, p⟩ = (sa ⟨env, p⟩).bind fun x s1 => (rd x s1).bind fun d s2 => FL.lift ((tyD d).bind fun t => (kitB t T).map .bool) s2 := rfl
theorem eM1_a {o : D → D → Option D} : eM1 o sa fb ⟨env, p⟩ = (sa ⟨env, p⟩).bind fun x s1 => (rd x s1).bind fun d0 s2 => (FL.lift (itemsOf d0) s2).bind fun _ s3 => (fb s3).bind fun e s4 => (rd x s4).bind fun d s5 => FL.lift (if sameK d0 d then o d e else none) s5 := rfl
theorem sSeq_a : sSeq g h ⟨env, p⟩ = (g ⟨env, p⟩).bind fun fl s1 => match fl with
  | .nx => h s1
  | fl => .ok fl s1 := rfl
theorem sSeqL_a : sSeqL g fl ⟨env, p⟩ = (g ⟨env, p⟩).bind fun x s1 => match x with
  | .nx => fl s1
  | _ => .bad := rfl
theorem sIfL_a : sIfL ta fl fl2 ⟨env, p⟩ = (ta ⟨env, p⟩).bind fun b s1 => if b then fl s1 else fl2 s1 := rfl
theorem sNx_a : sNx ⟨env, p⟩ = .ok .nx ⟨env, p⟩ := rfl
theorem sBk_a : sBk ⟨env, p⟩ = .ok .bk ⟨env, p⟩ := rfl
theorem sCt_a : sCt ⟨env, p⟩ = .ok .ct ⟨env, p⟩ := rfl
theorem sRet_a : sRet f ⟨env, p⟩ = (f ⟨env, p⟩).bind fun d s1 => .ok (.rt d) s1 := rfl
theorem sRetN_a : sRetN ⟨env, p⟩ = .ok (.rt .none) ⟨env, p⟩ := rfl
theorem sDrop_a : sDrop f ⟨env, p⟩ = (f ⟨env, p⟩).bind fun _ s1 => .ok .nx s1 := rfl
theorem sIf_a : sIf ta g h ⟨env, p⟩ = (ta ⟨env, p⟩).bind fun b s1 => if b then g s1 else h s1 := rfl
theorem aN_a : aN i d ⟨env, p⟩ = .ok () ⟨env.set i (.v d), p⟩ := rfl
theorem aNil_a : aNil [] ⟨env, p⟩ = .ok () ⟨env, p⟩ := rfl
theorem aCons_a {a : Asg} {r : List D → B Unit} : aCons a r (d :: ds) ⟨env, p⟩ = (a d ⟨env, p⟩).bind fun _ s1 => r ds s1 := rfl
theorem aTup_a {r : List D → B Unit} : aTup r (.tuple ds) ⟨env, p⟩ = r ds ⟨env, p⟩ := rfl
theorem aPool_0 {a b c n : Int} (h : env[i]? = some (.v poolD)) : aPool i 0 (.int n) ⟨env, some [a, b, c]⟩ = .ok () ⟨env, some [n, b, c]⟩ := by unfold aPool; simp only [h, poolD]; rfl
theorem aPool_1 {a b c n : Int} (h : env[i]? = some (.v poolD)) : aPool i 1 (.int n) ⟨env, some [a, b, c]⟩ = .ok () ⟨env, some [a, n, c]⟩ := by unfold aPool; simp only [h, poolD]; rfl
theorem aPool_2 {a b c n : Int} (h : env[i]? = some (.v poolD)) : aPool i 2 (.int n) ⟨env, some [a, b, c]⟩ = .ok () ⟨env, some [a, b, n]⟩ := by unfold aPool; simp only [h, poolD]; rfl
theorem sSet_a : sSet i f ⟨env, p⟩ = (f ⟨env, p⟩).bind fun d s1 => .ok .nx ⟨s1.env.set i (.v d), s1.pool⟩ := rfl
theorem sSetO_a : sSetO i fl ⟨env, p⟩ = (fl ⟨env, p⟩).bind fun ds s1 => .ok .nx ⟨s1.env.set i (.l ds), s1.pool⟩ := rfl
theorem sAsg_a {a : Asg} : sAsg f a ⟨env, p⟩ = (f ⟨env, p⟩).bind fun d s1 => match a d s1 with
  | .ok _ s2 => .ok .nx s2
  | _ => .bad := rfl
theorem sApp_a : sApp i f ⟨env, p⟩ = match ownAt i ⟨env, p⟩ with
  | none => .bad
  | some _ => (f ⟨env, p⟩).bind fun d s1 => match ownAt i s1 with
    | some xs => if xs.length < sizeLine then .ok .nx (putAt i (xs ++ [d]) s1) else .bad
    | none => .bad := rfl
theorem sExt_a : sExt i f ⟨env, p⟩ = match ownAt i ⟨env, p⟩ with
  | none => .bad
  | some _ => (f ⟨env, p⟩).bind fun d s1 => match ownAt i s1, d with
    | some xs, .list ds => if xs.length + ds.length ≤ sizeLine then .ok .nx (putAt i (xs ++ ds) s1) else .bad
    | _, _ => .bad := rfl
theorem ePop_a : ePop i ⟨env, p⟩ = match ownAt i ⟨env, p⟩ with
  | some xs => match xs[xs.length - 1]? with
    | some y => .ok y (putAt i xs.dropLast ⟨env, p⟩)
    | none => .bad
  | none => .bad := rfl
theorem sStore_a : sStore i fa fb ⟨env, p⟩ = (fb ⟨env, p⟩).bind fun d s1 => match ownAt i s1 with
  | none => .bad
  | some _ => (fa s1).bind fun j s2 => match ownAt i s2, j with
    | some xs, .int n => match ixN xs.length n with
      | some m => .ok .nx (putAt i (xs.set m d) s2)
      | none => .bad
    | _, _ => .bad := rfl
theorem aSub_a : aSub i f d ⟨env, p⟩ = match ownAt i ⟨env, p⟩ with
  | none => .bad
  | some _ => match f ⟨env, p⟩ with
    | .ok (.int n) s1 => match ownAt i s1 with
      | some xs => match ixN xs.length n with
        | some m => .ok () (putAt i (xs.set m d) s1)
        | none => .bad
      | none => .bad
    | _ => .bad := rfl
theorem ownAt_a : ownAt i ⟨env, p⟩ = match env[i]? with
  | some (.l xs) => some xs
  | _ => none := rfl
theorem putAt_a {xs : List D} : FL.putAt i xs ⟨env, p⟩ = ⟨env.set i (.l xs), p⟩ := rfl
theorem sPar_a {is : List Nat} : sPar is fm ⟨env, p⟩ = (fm ⟨env, p⟩).bind fun ds s1 => if ds.length = is.length then .ok .nx ⟨setAll s1.env is ds, s1.pool⟩ else .bad := rfl
theorem mNil_a : mNil ⟨env, p⟩ = .ok [] ⟨env, p⟩ := rfl
theorem mV_a : mV f fm ⟨env, p⟩ = (f ⟨env, p⟩).bind fun x s1 => (fm s1).bind fun xs s2 => .ok (.v x :: xs) s2 := rfl
theorem mO_a : mO fl fm ⟨env, p⟩ = (fl ⟨env, p⟩).bind fun xs s1 => match fm s1 with
  | .ok ds s2 => if s2.pool.isSome = s1.pool.isSome then .ok (.l xs :: ds) s2 else .bad
  | _ => .bad := rfl
theorem setAll_c {is : List Nat} {a : Sl} {as : List Sl} : setAll env (i :: is) (a :: as) = setAll (env.set i a) is as := rfl
theorem setAll_n {as : List Sl} : setAll env [] as = env := by cases as <;> rfl
theorem eDm_a : eDm fa fb ⟨env, p⟩ = (fa ⟨env, p⟩).bind fun d s1 => (fb s1).bind fun e s2 => FL.lift (match d, e with
    | .int i, .int j => if L2.CDiv i j then some (.tuple [.int (i / j), .int (i % j)]) else none
    | _, _ => none) s2 := rfl
theorem eCall_a {F : Fn} : eCall F fl ⟨env, p⟩ = (fl ⟨env, p⟩).bind fun ds s1 => match F ds none with
  | .ok d none => .ok d s1
  | .ex e none => .ex e s1
  | _ => .bad := rfl
theorem eCallP_a {F : Fn} : eCallP F fl ⟨env, p⟩ = (fl ⟨env, p⟩).bind fun ds s1 => match s1.pool with
  | none => .bad
  | some ps => match F ds (some ps) with
    | .ok d (some qs) => .ok d ⟨s1.env, some qs⟩
    | .ex e (some qs) => .ex e ⟨s1.env, some qs⟩
    | _ => .bad := rfl
theorem eCallO_a {F : FnL} : eCallO F fl ⟨env, p⟩ = (fl ⟨env, p⟩).bind fun ds s1 => match F ds none with
  | .ok d none => .ok d s1
  | .ex e none => .ex e s1
  | _ => .bad := rfl
theorem eCallOP_a {F : FnL} : eCallOP F fl ⟨env, p⟩ = (fl ⟨env, p⟩).bind fun ds s1 => match s1.pool with
  | none => .bad
  | some ps => match F ds (some ps) with
    | .ok d (some qs) => .ok d ⟨s1.env, some qs⟩
    | .ex e (some qs) => .ex e ⟨s1.env, some qs⟩
    | _ => .bad := rfl
theorem arrB_a {np nk : Nat} {perm : List Nat} : arrB np nk perm fl fl2 ⟨env, p⟩ = (fl ⟨env, p⟩).bind fun ds s1 => (fl2 s1).bind fun es s2 => FL.lift (if ds.length = np ∧ es.length = nk then some (arr perm (ds ++ es)) else none) s2 := rfl
theorem iItems_l {s1 : S} (hf : f s = .ok (.list ds) s1) : FL.iItems f s = .ok ds s1 := by
  unfold FL.iItems
  rw [bind_def, hf]
  rfl
theorem iItems_t {s1 : S} (hf : f s = .ok (.tuple ds) s1) : FL.iItems f s = .ok ds s1 := by
  unfold FL.iItems
  rw [bind_def, hf]
  rfl
theorem iItems_s {s1 : S} (hf : f s = .ok (scrD ds) s1) : FL.iItems f s = .ok ds s1 := by
  unfold FL.iItems
  rw [bind_def, hf]
  rfl
theorem iEn_a : iEn f ⟨env, p⟩ = (f ⟨env, p⟩).bind fun d s1 => (FL.lift (itemsOf d) s1).bind fun ds s2 => .ok (enumD 0 ds) s2 := rfl
theorem turn_a {a : Asg} : turnB a ta f d ⟨env, p⟩ = match a d ⟨env, p⟩ with
  | .ok _ s1 => match ta s1 with
    | .ok true s2 => match f s2 with
      | .ok y s3 => .ok (some y) s3
      | _ => .bad
    | .ok false s2 => .ok none s2
    | _ => .bad
  | _ => .bad := rfl
theorem fnB_a {np N : Nat} (h : ds.length = np) : fnB np N g ds p = match g ⟨ds.map Sl.v ++ List.replicate (N - np) Sl.no, p⟩ with
    | .ok (.rt d) s => .ok d s.pool
    | .ok .nx s => .ok .none s.pool
    | .ok _ _ => .bad
    | .ex e s => .ex e s.pool
    | .bad => .bad := if_pos h
theorem fnL_a {np N : Nat} (h : ds.length = np) : fnL np N fl ds p = match fl ⟨ds.map Sl.v ++ List.replicate (N - np) Sl.no, p⟩ with
    | .ok d s => .ok d s.pool
    | .ex e s => .ex e s.pool
    | .bad => .bad := if_pos h
theorem rep_s {n : Nat} {a : α} : List.replicate (n + 1) a = a :: List.replicate n a := rfl
theorem rep_z {a : α} : List.replicate 0 a = [] := rfl
theorem few_z : few [] = some [] := few_n (by simp)
theorem few_1 {a : D} : few [a] = some [a] := few_n (by simp)
theorem few_2 {a b : D} : few [a, b] = some [a, b] := few_n (by simp)
theorem few_3 {a b c : D} : few [a, b, c] = some [a, b, c] := few_n (by simp)
theorem gAdd_i {a b : Int} : gAdd (.int a) (.int b) = some (.int (a + b)) := rfl
theorem gSub_i {a b : Int} : gSub (.int a) (.int b) = some (.int (a - b)) := rfl
theorem gMul_i {a b : Int} (h : L2.CMul a b) : gMul (.int a) (.int b) = some (.int (a * b)) := if_pos h
theorem gMod_i {a b : Int} (h : b ≠ 0) : gMod (.int a) (.int b) = some (.int (a.fmod b)) := if_pos h
theorem gDiv_i {a b : Int} (h : L2.CDivN a b) : gDiv (.int a) (.int b) = some (.int (a.fdiv b)) := if_pos h
theorem cLt_i {a b : Int} : cLt (.int a) (.int b) = some (decide (a < b)) := rfl
theorem cLe_i {a b : Int} : cLe (.int a) (.int b) = some (decide (a ≤ b)) := rfl
theorem cGt_i {a b : Int} : cGt (.int a) (.int b) = some (decide (b < a)) := rfl
theorem cGe_i {a b : Int} : cGe (.int a) (.int b) = some (decide (b ≤ a)) := rfl
theorem cEq_s {d e : D} (h1 : SeqAt.shaped d = true) (h2 : SeqAt.shaped e = true) : cEq d e = some (PyData.eqv d e) := if_pos (.inl ⟨h1, h2⟩)
theorem cNe_s {d e : D} (h1 : SeqAt.shaped d = true) (h2 : SeqAt.shaped e = true) : cNe d e = some (!PyData.eqv d e) := if_pos (.inl ⟨h1, h2⟩)
theorem cEq_i {a b : Int} : cEq (.int a) (.int b) = some (decide (a = b)) := by rw [cEq_s (sh_i a) (sh_i b), eqv_i]
theorem cNe_i {a b : Int} : cNe (.int a) (.int b) = some (!decide (a = b)) := by rw [cNe_s (sh_i a) (sh_i b), eqv_i]
theorem cEq_str {a b : Str} : cEq (.str a) (.str b) = some (a == b) := if_pos (.inr ⟨rfl, rfl⟩)
theorem cNe_str {a b : Str} : cNe (.str a) (.str b) = some (!(a == b)) := if_pos (.inr ⟨rfl, rfl⟩)
theorem eqv_b (a b : Bool) : PyData.eqv (.bool a) (.bool b) = (a == b) := rfl
theorem cEq_b {a b : Bool} : cEq (.bool a) (.bool b) = some (a == b) := by rw [cEq_s (sh_b a) (sh_b b)]; rfl
theorem truth_b {b : Bool} : truth (.bool b) = some b := rfl
theorem truth_i {i : Int} : truth (.int i) = some (i != 0) := rfl
theorem truth_l : truth (.list ds) = some (!ds.isEmpty) := rfl
theorem truth_t : truth (.tuple ds) = some (!ds.isEmpty) := rfl
theorem gLen_l : gLen [.list ds] = some (nD ds.length) := rfl
theorem gLen_t : gLen [.tuple ds] = some (nD ds.length) := rfl
theorem gInt_i {i : Int} : gInt [.int i] = some (.int i) := rfl
theorem gTup_l : gTupOf [.list ds] = some (.tuple ds) := rfl
theorem gTup_t : gTupOf [.tuple ds] = some (.tuple ds) := rfl
theorem items_l : itemsOf (.list ds) = some ds := rfl
theorem items_t : itemsOf (.tuple ds) = some ds := rfl
theorem cIs_b {n a b : Bool} : cIs n (.bool a) (.bool b) = some (if n then !decide (a = b) else decide (a = b)) := rfl
theorem gIx_l0 {a : D} : gIx (.list (a :: ds)) (.int 0) = some a := gIx_l _ 0
theorem gIx_l1 {a b : D} : gIx (.list (a :: b :: ds)) (.int 1) = some b := gIx_l _ 1
theorem gIx_l2 {a b c : D} : gIx (.list (a :: b :: c :: ds)) (.int 2) = some c := gIx_l _ 2
theorem gIx_t0 {a : D} : gIx (.tuple (a :: ds)) (.int 0) = some a := gIx_t _ 0
theorem gIx_t1 {a b : D} : gIx (.tuple (a :: b :: ds)) (.int 1) = some b := gIx_t _ 1
theorem gIx_t2 {a b c : D} : gIx (.tuple (a :: b :: c :: ds)) (.int 2) = some c := gIx_t _ 2
theorem cLt_n {a b : Nat} : cLt (nD a) (nD b) = some (decide (a < b)) := by rw [nD, nD, cLt_i]; congr 1; exact decide_eq_decide.mpr (by omega)
theorem cLt_ni {a : Nat} {b : Int} : cLt (nD a) (.int b) = some (decide ((a : Int) < b)) := rfl
theorem cLt_in {a : Int} {b : Nat} : cLt (.int a) (nD b) = some (decide (a < (b : Int))) := rfl
theorem cLe_n {a b : Nat} : cLe (nD a) (nD b) = some (decide (a ≤ b)) := by rw [nD, nD, cLe_i]; congr 1; exact decide_eq_decide.mpr (by omega)
theorem cLe_ni {a : Nat} {b : Int} : cLe (nD a) (.int b) = some (decide ((a : Int) ≤ b)) := rfl
theorem cLe_in {a : Int} {b : Nat} : cLe (.int a) (nD b) = some (decide (a ≤ (b : Int))) := rfl
theorem cGt_n {a b : Nat} : cGt (nD a) (nD b) = some (decide (b < a)) := by rw [nD, nD, cGt_i]; congr 1; exact decide_eq_decide.mpr (by omega)
theorem cGt_ni {a : Nat} {b : Int} : cGt (nD a) (.int b) = some (decide (b < (a : Int))) := rfl
theorem cGe_n {a b : Nat} : cGe (nD a) (nD b) = some (decide (b ≤ a)) := by rw [nD, nD, cGe_i]; congr 1; exact decide_eq_decide.mpr (by omega)
theorem cGe_ni {a : Nat} {b : Int} : cGe (nD a) (.int b) = some (decide (b ≤ (a : Int))) := rfl
theorem cEq_n {a b : Nat} : cEq (nD a) (nD b) = some (decide (a = b)) := by rw [cEq_s (sh_n a) (sh_n b), eqv_n]
theorem cEq_ni {a : Nat} {b : Int} : cEq (nD a) (.int b) = some (decide ((a : Int) = b)) := cEq_i
theorem cEq_in {a : Int} {b : Nat} : cEq (.int a) (nD b) = some (decide (a = (b : Int))) := cEq_i
theorem cNe_n {a b : Nat} : cNe (nD a) (nD b) = some (!decide (a = b)) := by rw [cNe_s (sh_n a) (sh_n b), eqv_n]
theorem cNe_ni {a : Nat} {b : Int} : cNe (nD a) (.int b) = some (!decide ((a : Int) = b)) := cNe_i
theorem gAdd_n {a b : Nat} : gAdd (nD a) (nD b) = some (nD (a + b)) := by simp [nD, gAdd]
theorem gAdd_ni {a : Nat} {b : Int} : gAdd (nD a) (.int b) = some (.int (a + b)) := rfl
theorem gAdd_in {a : Int} {b : Nat} : gAdd (.int a) (nD b) = some (.int (a + b)) := rfl
theorem gSub_ni {a : Nat} {b : Int} : gSub (nD a) (.int b) = some (.int (a - b)) := rfl
theorem gSub_nn {a b : Nat} : gSub (nD a) (nD b) = some (.int ((a : Int) - b)) := rfl
theorem gSub_in {a : Int} {b : Nat} : gSub (.int a) (nD b) = some (.int (a - b)) := rfl
theorem gInt_n {a : Nat} : gInt [nD a] = some (nD a) := rfl
theorem cEq_tN {a b : List Nat} : cEq (tN a) (tN b) = some (decide (a = b)) := by rw [cEq_s (sh_tN a) (sh_tN b), eqv_tN]
theorem cNe_tN {a b : List Nat} : cNe (tN a) (tN b) = some (!decide (a = b)) := by rw [cNe_s (sh_tN a) (sh_tN b), eqv_tN]
theorem cEq_lN {a b : List Nat} : cEq (.list (a.map nD)) (.list (b.map nD)) = some (decide (a = b)) := by rw [cEq_s (sh_lN a) (sh_lN b), eqv_lN]
theorem sh_nilL : SeqAt.shaped (.list []) = true := rfl
theorem sh_nilT : SeqAt.shaped (.tuple []) = true := rfl
theorem gLen_tN {a : List Nat} : gLen [tN a] = some (nD a.length) := by simp [tN, gLen, nD]
theorem gLen_tT {a : List (List Nat)} : gLen [tTT a] = some (nD a.length) := by simp [tTT, gLen, nD]
theorem gIx_tN {a : List Nat} {i : Nat} : gIx (tN a) (nD i) = (a[i]?).map nD := by rw [tN, gIx_t, List.getElem?_map]
theorem gIx_tT {a : List (List Nat)} {i : Nat} : gIx (tTT a) (nD i) = (a[i]?).map tN := by rw [tTT, gIx_t, List.getElem?_map]
theorem items_tN {a : List Nat} : itemsOf (tN a) = some (a.map nD) := rfl
theorem items_tT {a : List (List Nat)} : itemsOf (tTT a) = some (a.map tN) := rfl
theorem ty_i {i : Int} : tyD (.int i) = some "int" := rfl
theorem ty_n {i : Nat} : tyD (nD i) = some "int" := rfl
theorem ty_tN {a : List Nat} : tyD (tN a) = some "tuple" := rfl
theorem ty_tT {a : List (List Nat)} : tyD (tTT a) = some "tuple" := rfl
theorem kit_ii : kitB "int" "int" = some true := by decide +kernel
theorem kit_ib : kitB "int" "bool" = some false := by decide +kernel
theorem kit_tt : kitB "tuple" "tuple" = some true := by decide +kernel
theorem kit_lt : kitB "list" "tuple" = some false := by decide +kernel
theorem same_tN {a b : List Nat} : sameK (tN a) (tN b) = true := rfl
theorem same_l {a b : List D} : sameK (.list a) (.list b) = true := rfl
theorem arr_n {xs : List α} : arr [] xs = [] := rfl
theorem arr_c {j : Nat} {perm : List Nat} {xs : List α} : arr (j :: perm) xs = match xs[j]? with
    | some x => x :: arr perm xs
    | none => arr perm xs := arr_cons j perm xs
end
end FL
set_option maxHeartbeats 1000000
/-! FR: repr of small data. -/
namespace FL
open PySem PySem.Spec PyProof.Rows L2
theorem gRepr_ok {d : D} (h1 : isSeq d = true) (h2 : PyData.layable0 d = true) (h3 : d.showable = true) (h4 : d.intsShort 13 = true) : gRepr [d] = some (.str d.shown) := by
  have hc : d.canLay0 = true := SeqAt.canLay_of_layable h2
  have hl := PyProof.Rows.shown_le13 h2 h4
  exact if_pos ⟨h1, SeqAt.shaped_of_layable h2, h3, PyData.hasDict_of_canLay d hc, by rw [sizeLine_eq]; omega⟩
theorem short10 : ∀ k : Nat, k < 10 → (PyData.shown (nD k)).length ≤ 13 ∧ (nD k).showable = true ∧ (nD k).weight ≤ 4 := by
  intro k hk
  match k, hk with
  | 0, _ => exact ⟨by decide +kernel, by decide +kernel, by decide +kernel⟩
  | 1, _ => exact ⟨by decide +kernel, by decide +kernel, by decide +kernel⟩
  | 2, _ => exact ⟨by decide +kernel, by decide +kernel, by decide +kernel⟩
  | 3, _ => exact ⟨by decide +kernel, by decide +kernel, by decide +kernel⟩
  | 4, _ => exact ⟨by decide +kernel, by decide +kernel, by decide +kernel⟩
  | 5, _ => exact ⟨by decide +kernel, by decide +kernel, by decide +kernel⟩
  | 6, _ => exact ⟨by decide +kernel, by decide +kernel, by decide +kernel⟩
  | 7, _ => exact ⟨by decide +kernel, by decide +kernel, by decide +kernel⟩
  | 8, _ => exact ⟨by decide +kernel, by decide +kernel, by decide +kernel⟩
  | 9, _ => exact ⟨by decide +kernel, by decide +kernel, by decide +kernel⟩
  | k + 10, h => omega
theorem smallA : ∀ l : List Nat, (∀ k ∈ l, k < 10) → PyData.intsShortAll 13 (l.map nD) = true ∧ PyData.showableAll (l.map nD) = true ∧ PyData.weightAll (l.map nD) ≤ 5 * l.length
  | [], _ => ⟨rfl, rfl, Nat.le_refl _⟩
  | a :: l, h => by
    obtain ⟨h1, h2, h3⟩ := smallA l fun k hk => h k (List.mem_cons_of_mem _ hk)
    obtain ⟨g1, g2, g3⟩ := short10 a (h a List.mem_cons_self)
    refine ⟨?_, ?_, ?_⟩
    · simp only [List.map_cons, PyData.intsShortAll, h1, Bool.and_true]
      exact decide_eq_true g1
    · simp only [List.map_cons, PyData.showableAll, h2, g2, Bool.and_true]
    · simp only [List.map_cons, PyData.weightAll, List.length_cons]
      omega
theorem smallT : ∀ ls : List (List Nat), (∀ l ∈ ls, l.length ≤ 100 ∧ ∀ k ∈ l, k < 10) → PyData.intsShortAll 13 (ls.map tN) = true ∧ PyData.showableAll (ls.map tN) = true ∧ PyData.weightAll (ls.map tN) ≤ 501 * ls.length
  | [], _ => ⟨rfl, rfl, Nat.le_refl _⟩
  | a :: l, h => by
    obtain ⟨h1, h2, h3⟩ := smallT l fun k hk => h k (List.mem_cons_of_mem _ hk)
    obtain ⟨g0, g⟩ := h a List.mem_cons_self
    obtain ⟨g1, g2, g3⟩ := smallA a g
    refine ⟨?_, ?_, ?_⟩
    · simp only [List.map_cons, PyData.intsShortAll, h1, Bool.and_true]
      exact g1
    · simp only [List.map_cons, PyData.showableAll, h2, Bool.and_true]
      exact g2
    · have : (tN a).weight = PyData.weightAll (a.map nD) := rfl
      simp only [List.map_cons, PyData.weightAll, List.length_cons, this]
      omega
/-- repr of a list of tuples of digits -/
theorem gRepr_lT {ls : List (List Nat)} (h : ∀ l ∈ ls, l.length ≤ 100 ∧ ∀ k ∈ l, k < 10) (hz : ls.length ≤ 1000) : gRepr [.list (ls.map tN)] = some (.str (PyData.shown (.list (ls.map tN)))) := by
  obtain ⟨h1, h2, h3⟩ := smallT ls h
  refine gRepr_ok rfl ?_ h2 h1
  have hs := sh_lT ls
  unfold SeqAt.shaped at hs
  have e : PyData.layable0 (.list (ls.map tN)) = (PyData.canLay0 (.list (ls.map tN)) && decide (PyData.depth (.list (ls.map tN)) ≤ 64) && decide (PyData.weight (.list (ls.map tN)) ≤ 2 ^ 20)) := rfl
  rw [e, hs, Bool.true_and]
  have e2 : PyData.weight (.list (ls.map tN)) = PyData.weightAll (ls.map tN) := rfl
  rw [e2]
  exact decide_eq_true (by have : (2 : Nat) ^ 20 = 1048576 := by decide
                           omega)
end FL
set_option maxHeartbeats 1000000
/-! FS: sorted lists of tuples of numbers: one list for all orders of the same items. -/
namespace FL
open PySem PySem.Spec PyProof.Rows L2
theorem dle_total : PySem.W.TotalLe (PySem.W.dataLe (β := D) false id) := PySem.W.sortLe_total _ _ _
theorem dle_anti {a b : D} (h1 : PySem.W.dataLe false id a b = true) (h2 : PySem.W.dataLe false id b a = true) : PySem.W.keyToks a = PySem.W.keyToks b := by
  rw [PySem.W.dataLe_eq] at h1 h2
  simp only [cond_false, id_eq, Bool.not_eq_true'] at h1 h2
  exact PyProof.Rows.lex_total _ _ h2 h1
theorem toks_tN : ∀ {a b : List Nat}, PySem.W.keyToksAll (a.map nD) = PySem.W.keyToksAll (b.map nD) → a = b
  | [], [], _ => rfl
  | [], y :: b, h => by simp [PySem.W.keyToksAll] at h
  | x :: a, [], h => by simp [PySem.W.keyToksAll] at h
  | x :: a, y :: b, h => by
    simp only [List.map_cons, PySem.W.keyToksAll, nD, PySem.W.keyToks, List.cons_append, List.nil_append, List.cons.injEq, true_and, Sum.inl.injEq] at h
    obtain ⟨h1, h2⟩ := h
    have h1 : x = y := by omega
    have h2 : a = b := toks_tN h2
    rw [h1, h2]
theorem dle_tN {a b : List Nat} (h1 : PySem.W.dataLe false id (tN a) (tN b) = true) (h2 : PySem.W.dataLe false id (tN b) (tN a) = true) : a = b := by
  have h := dle_anti h1 h2
  simp only [tN, PySem.W.keyToks] at h
  exact toks_tN h
def leT (a b : List Nat) : Bool := PySem.W.dataLe false id (tN a) (tN b)
/-- sorted, on tuples of numbers -/
def sortT (ls : List (List Nat)) : List (List Nat) := ls.mergeSort leT
theorem sortT_perm (ls : List (List Nat)) : (sortT ls).Perm ls := List.mergeSort_perm _ _
theorem mem_sortT {ls : List (List Nat)} {x : List Nat} : x ∈ sortT ls ↔ x ∈ ls := (sortT_perm ls).mem_iff
theorem sortT_pw (ls : List (List Nat)) : (sortT ls).Pairwise fun a b => leT a b = true :=
  List.pairwise_mergeSort (le := leT) (fun a b c h1 h2 => dle_total.trans (tN a) (tN b) (tN c) h1 h2) (fun a b => by rw [Bool.or_eq_true]; exact dle_total.total (tN a) (tN b)) ls
theorem sortT_one {a b : List (List Nat)} (h : a.Perm b) (ha : a.Pairwise fun a b => leT a b = true) (hb : b.Pairwise fun a b => leT a b = true) : a = b :=
  List.Perm.eq_of_pairwise (le := fun a b => leT a b = true) (fun a b _ _ h1 h2 => dle_tN h1 h2) ha hb h
theorem sortT_eq {a b : List (List Nat)} (h : a.Perm b) : sortT a = sortT b := sortT_one ((sortT_perm a).trans (h.trans (sortT_perm b).symm)) (sortT_pw a) (sortT_pw b)
theorem sortT_filter (p : List Nat → Bool) (a : List (List Nat)) : (sortT a).filter p = sortT (a.filter p) :=
  sortT_one (((sortT_perm a).filter p).trans (sortT_perm _).symm) ((sortT_pw a).filter p) (sortT_pw _)
theorem sortD_tT (ls : List (List Nat)) : sortD (ls.map tN) = (sortT ls).map tN := by
  unfold sortD sortT
  rw [List.map_mergeSort]
  intro a _ b _
  rfl
theorem alikeAll_n : ∀ a b : List Nat, PySem.W.alikeAll (a.map nD) (b.map nD) = true
  | [], b => by simp [PySem.W.alikeAll]
  | x :: a, [] => by simp [PySem.W.alikeAll]
  | x :: a, y :: b => by
    simp only [List.map_cons, PySem.W.alikeAll, nD, PySem.W.alike, Bool.true_and]
    exact alikeAll_n a b
theorem okSort_tT {ls : List (List Nat)} (h : ∀ l ∈ ls, l ≠ []) : okSort (ls.map tN) = true := by
  unfold okSort
  rw [Bool.and_eq_true, Bool.or_eq_true]
  refine ⟨List.all_eq_true.mpr fun x hx => List.all_eq_true.mpr fun y hy => ?_, .inr (List.all_eq_true.mpr fun x hx => ?_)⟩
  · obtain ⟨a, _, rfl⟩ := List.mem_map.mp hx
    obtain ⟨b, _, rfl⟩ := List.mem_map.mp hy
    simp only [tN, PySem.W.alike]
    exact alikeAll_n a b
  · obtain ⟨a, ha, rfl⟩ := List.mem_map.mp hx
    cases a with
    | nil => exact absurd rfl (h _ ha)
    | cons _ _ => rfl
theorem gSort_lT {ls : List (List Nat)} (h : ∀ l ∈ ls, l ≠ []) : gSort [.list (ls.map tN)] = some ((sortT ls).map tN) := by
  have e : itemsOf (.list (ls.map tN)) = some (ls.map tN) := rfl
  simp only [gSort, e, Option.bind_some, okSort_tT h, sh_lT, and_self, if_true, sortD_tT]
theorem gSort_lN (l : List Nat) : gSort [.list (l.map nD)] = some ((l.mergeSort fun a b => decide (a ≤ b)).map nD) := by
  have e : itemsOf (.list (l.map nD)) = some (l.map nD) := rfl
  simp only [gSort, e, Option.bind_some, okSort_n, sh_lN, and_self, if_true, sortD_n]
def minL (a : Nat) (l : List Nat) : Nat := l.foldl (fun a y => if y < a then y else a) a
theorem minD_n : ∀ (l : List Nat) (a : Nat), PySem.W.minD (nD a) (l.map nD) = nD (minL a l)
  | [], _ => rfl
  | y :: l, a => by
    have ih := minD_n l (if y < a then y else a)
    unfold PySem.W.minD minL at *
    rw [List.map_cons, List.foldl_cons, List.foldl_cons]
    rw [← ih]
    congr 1
    rw [nD, nD, dataLt_i]
    by_cases c : y < a
    · rw [if_pos c, decide_eq_true (by omega)]; rfl
    · rw [if_neg c, decide_eq_false (by omega)]; rfl
theorem okCmp_n (l : List Nat) : okCmp (l.map nD) = true := by
  unfold okCmp
  rw [Bool.and_eq_true]
  refine ⟨List.all_eq_true.mpr fun x hx => List.all_eq_true.mpr fun y hy => ?_, List.all_eq_true.mpr fun x hx => ?_⟩
  · obtain ⟨a, _, rfl⟩ := List.mem_map.mp hx
    obtain ⟨b, _, rfl⟩ := List.mem_map.mp hy
    simp [nD, PySem.W.alike]
  · obtain ⟨a, _, rfl⟩ := List.mem_map.mp hx
    simp [nD, notNone]
theorem gBest_tN (a : Nat) (l : List Nat) : gBest false [tN (a :: l)] = some (nD (minL a l)) := by
  have e : itemsOf (tN (a :: l)) = some (nD a :: l.map nD) := rfl
  have h := okCmp_n (a :: l)
  rw [List.map_cons] at h
  simp only [gBest, e, Option.bind_some, h, sh_tN, and_self, if_true, bestD, Bool.false_eq_true, if_false, minD_n]
theorem gBest_lN (a : Nat) (l : List Nat) : gBest false [.list ((a :: l).map nD)] = some (nD (minL a l)) := by
  have e : itemsOf (.list ((a :: l).map nD)) = some (nD a :: l.map nD) := rfl
  have h := okCmp_n (a :: l)
  rw [List.map_cons] at h
  simp only [gBest, e, Option.bind_some, h, sh_lN, and_self, if_true, bestD, Bool.false_eq_true, if_false, minD_n]
end FL
set_option maxHeartbeats 1000000
/-! FN: plain rules for comprehensions of several clauses. -/
namespace FL
open PySem PySem.Spec PyProof.Rows L2
/-- the clause adds out to the row, whatever the row; P holds before and after -/
def Gives (f : List D → List D → B (List D)) (ds : List D) (P : S → Prop) (out : List D) : Prop :=
  ∀ acc s, P s → acc.length + out.length ≤ 16777216 → ∃ s', f ds acc s = .ok (acc ++ out) s' ∧ P s'
theorem gives_for {a : Asg} {c : B Bool} {k : List D → B (List D)} {P : S → Prop} {α : Type} (e : α → D) (o : α → List D) : ∀ (ds : List α),
    (∀ d ∈ ds, ∀ acc s, P s → acc.length + (o d).length ≤ 16777216 → ∃ s1 b s2, a (e d) s = .ok () s1 ∧ c s1 = .ok b s2 ∧ (b = false → o d = [] ∧ P s2) ∧ (b = true → ∃ s3, k acc s2 = .ok (acc ++ o d) s3 ∧ P s3)) →
    Gives (forC a c k) (ds.map e) P (ds.flatMap o)
  | [], _ => fun acc s hP _ => ⟨s, by simp [forC], hP⟩
  | d :: ds, h => fun acc s hP hz => by
    rw [List.flatMap_cons, List.length_append] at hz
    obtain ⟨s1, b, s2, e1, e2, hf, ht⟩ := h d (List.mem_cons_self) acc s hP (by omega)
    have ih := gives_for e o ds fun d hd => h d (List.mem_cons_of_mem _ hd)
    rw [List.map_cons]
    unfold forC
    rw [e1]
    simp only [e2]
    cases b with
    | false =>
      obtain ⟨h0, h1⟩ := hf rfl
      obtain ⟨s', e3, h3⟩ := ih acc s2 h1 (by omega)
      refine ⟨s', ?_, h3⟩
      rw [List.flatMap_cons, h0, List.nil_append]
      exact e3
    | true =>
      obtain ⟨s3, e3, h3⟩ := ht rfl
      simp only [e3]
      obtain ⟨s', e4, h4⟩ := ih (acc ++ o d) s3 h3 (by rw [List.length_append]; omega)
      refine ⟨s', ?_, h4⟩
      rw [List.flatMap_cons, ← List.append_assoc]
      exact e4
theorem gives_last {a : Asg} {c : B Bool} {g : B D} {ps : Bool} {P : S → Prop} {α : Type} (e : α → D) (o : α → List D) (ds : List α)
    (h : ∀ d ∈ ds, ∀ s, P s → ∃ s1 b s2, a (e d) s = .ok () s1 ∧ c s1 = .ok b s2 ∧ (b = false → o d = [] ∧ P s2) ∧ (b = true → ∃ y s3, g s2 = .ok y s3 ∧ s3.pool.isSome = ps ∧ o d = [y] ∧ P s3)) :
    Gives (cLast a c g ps) (ds.map e) P (ds.flatMap o) :=
  gives_for e o ds fun d hd acc s hP hz => by
    obtain ⟨s1, b, s2, e1, e2, hf, ht⟩ := h d hd s hP
    refine ⟨s1, b, s2, e1, e2, hf, fun hb => ?_⟩
    obtain ⟨y, s3, e3, hp, ho, h3⟩ := ht hb
    refine ⟨s3, ?_, h3⟩
    unfold kLast
    rw [ho] at hz ⊢
    rw [e3]
    simp only
    rw [if_pos ⟨by rw [sizeLine_eq]; simp at hz; omega, hp⟩]
theorem gives_more {a : Asg} {c : B Bool} {fi : B (List D)} {f : Cl} {ps : Bool} {P : S → Prop} {α : Type} (e : α → D) (P1 : α → S → Prop) (o : α → List D) (ds : List α)
    (h : ∀ d ∈ ds, ∀ s, P s → ∃ s1 b s2, a (e d) s = .ok () s1 ∧ c s1 = .ok b s2 ∧ (b = false → o d = [] ∧ P s2) ∧ (b = true → ∃ ds1 s3, fi s2 = .ok ds1 s3 ∧ P1 d s3 ∧ Gives (f ps) ds1 (P1 d) (o d)))
    (h1 : ∀ d s, P1 d s → P s) : Gives (cMore a c fi f ps) (ds.map e) P (ds.flatMap o) :=
  gives_for e o ds fun d hd acc s hP hz => by
    obtain ⟨s1, b, s2, e1, e2, hf, ht⟩ := h d hd s hP
    refine ⟨s1, b, s2, e1, e2, hf, fun hb => ?_⟩
    obtain ⟨ds1, s3, e3, h3, hg⟩ := ht hb
    obtain ⟨s4, e4, h4⟩ := hg acc s3 h3 hz
    exact ⟨s4, by rw [e3]; exact e4, h1 _ _ h4⟩
theorem eLcN_gives {fi : B (List D)} {own : List Nat} {f : Cl} {s : S} {env : List Sl} {p : Option (List Int)} {ds out : List D} {P : S → Prop} (hf : fi s = .ok ds ⟨env, p⟩) (hP : P ⟨wipeE env own, p⟩) (hg : Gives (f p.isSome) ds P out)
    (hb : ∀ s, P s → s.pool = p ∧ backE env s.env own = env) (hz : out.length ≤ 16777216) : eLcN fi own f s = .ok out ⟨env, p⟩ := by
  obtain ⟨s', e1, h1⟩ := hg [] _ hP (by simpa using hz)
  obtain ⟨h2, h3⟩ := hb s' h1
  unfold eLcN
  rw [hf]
  simp only [R.bind]
  rw [e1]
  simp only [List.nil_append]
  unfold backS
  rw [if_pos (by rw [h2])]
  simp only [R.bind, h2, h3]
theorem enumD_zip {α : Type} (f : α → D) : ∀ (l : List α) (n : Nat), enumD n (l.map f) = (l.zipIdx n).map fun x => .tuple [nD x.2, f x.1]
  | [], n => rfl
  | a :: l, n => by
    rw [List.map_cons, enumD, enumD_zip f l (n + 1), List.zipIdx_cons, List.map_cons]
    rfl
theorem zip_range {α : Type} (l : List α) (d : α) : l.zipIdx = (List.range l.length).map fun i => (l.getD i d, i) := by
  apply List.ext_getElem?
  intro i
  rw [List.getElem?_zipIdx, List.getElem?_map]
  by_cases h : i < l.length
  · rw [List.getElem?_range h]
    simp [List.getD_eq_getElem?_getD, List.getElem?_eq_getElem h]
  · rw [List.getElem?_eq_none (by omega), List.getElem?_eq_none (by simp; omega)]
    rfl
theorem enumD_rg (l : List (List Nat)) : enumD 0 (l.map tN) = (List.range l.length).map fun i => .tuple [nD i, tN (l.getD i [])] := by
  rw [enumD_zip, zip_range l [], List.map_map]
  rfl
/-- a comprehension over xs, told item by item -/
theorem eLc_filterA {α : Type} (e : α → D) (xs : List α) (o : α → Option D) {fi : B (List D)} {own : List Nat} {a : Asg} {c : B Bool} {g : B D} {s : S} {env : List Sl} {p : Option (List Int)} (hf : fi s = .ok (xs.map e) ⟨env, p⟩)
    (st : ∀ x ∈ xs, ∃ e1, turnB a c g (e x) ⟨wipeE env own, p⟩ = .ok (o x) ⟨e1, p⟩ ∧ backE env e1 own = env) (hz : xs.length ≤ sizeLine) : eLc fi own a c g s = .ok (xs.filterMap o) ⟨env, p⟩ := by
  obtain ⟨ys, p', h1, h2⟩ := eLc_inv (fi := fi) (own := own) (a := a) (c := c) (g := g) (s := s) (fun i acc q => q = p ∧ acc = (xs.take i).filterMap o) hf ⟨rfl, rfl⟩ (fun i d acc q hd hi => by
    obtain ⟨rfl, rfl⟩ := hi
    rw [List.getElem?_map] at hd
    obtain ⟨x, hx, rfl⟩ := Option.map_eq_some_iff.mp hd
    obtain ⟨e1, h1, h2⟩ := st x (List.mem_of_getElem? hx)
    refine ⟨_, _, h1, rfl, h2, rfl, ?_⟩
    rw [List.take_add_one, hx, List.filterMap_append]
    simp only [Option.toList, List.filterMap_cons, List.filterMap_nil]
    cases o x <;> rfl) (fun ys q hi => by
    obtain ⟨_, rfl⟩ := hi
    refine Nat.le_trans (List.length_filterMap_le _ _) ?_
    rw [List.length_map, List.take_length]
    exact hz)
  obtain ⟨rfl, rfl⟩ := h2
  rw [h1, List.length_map, List.take_length]
end FL
set_option maxHeartbeats 1000000
/-! FW: tuples of tuples of numbers: equal, in, repr. -/
namespace FL
open PySem PySem.Spec PyProof.Rows L2
theorem eqvA_T : ∀ l m : List (List Nat), PyData.eqvAll (l.map tN) (m.map tN) = decide (l = m)
  | [], [] => by simp [PyData.eqvAll]
  | [], _ :: _ => by simp [PyData.eqvAll]
  | _ :: _, [] => by simp [PyData.eqvAll]
  | a :: l, b :: m => by
    simp only [List.map_cons, PyData.eqvAll, eqv_tN, eqvA_T l m]
    by_cases h : a = b <;> by_cases h2 : l = m <;> simp [h, h2]
theorem eqv_tT (l m : List (List Nat)) : PyData.eqv (tTT l) (tTT m) = decide (l = m) := by simp only [tTT, PyData.eqv, eqvA_T]
theorem eqv_lT (l m : List (List Nat)) : PyData.eqv (.list (l.map tN)) (.list (m.map tN)) = decide (l = m) := by simp only [PyData.eqv, eqvA_T]
theorem cEq_tT {a b : List (List Nat)} : cEq (tTT a) (tTT b) = some (decide (a = b)) := by rw [cEq_s (sh_tT a) (sh_tT b), eqv_tT]
theorem cNe_tT {a b : List (List Nat)} : cNe (tTT a) (tTT b) = some (!decide (a = b)) := by rw [cNe_s (sh_tT a) (sh_tT b), eqv_tT]
theorem cEq_lT {a b : List (List Nat)} : cEq (.list (a.map tN)) (.list (b.map tN)) = some (decide (a = b)) := by rw [cEq_s (sh_lT a) (sh_lT b), eqv_lT]
theorem cNe_lT {a b : List (List Nat)} : cNe (.list (a.map tN)) (.list (b.map tN)) = some (!decide (a = b)) := by rw [cNe_s (sh_lT a) (sh_lT b), eqv_lT]
theorem any_T (k : List Nat) (l : List (List Nat)) : ((l.map tN).any fun z => PyData.eqv z (tN k)) = decide (k ∈ l) := by
  rw [List.any_map]
  have : ((fun z => PyData.eqv z (tN k)) ∘ tN) = fun a => decide (a = k) := by funext a; simp only [Function.comp, eqv_tN]
  rw [this, Bool.eq_iff_iff]
  simp
theorem cIn_tT (neg : Bool) (k : List Nat) (l : List (List Nat)) : cIn neg (tN k) (tTT l) = some (if neg then !decide (k ∈ l) else decide (k ∈ l)) := by
  have e : itemsOf (tTT l) = some (l.map tN) := rfl
  simp only [cIn, e, Option.bind_some, sh_tN, sh_tT, and_self, if_true, any_T]
theorem cIn_lT (neg : Bool) (k : List Nat) (l : List (List Nat)) : cIn neg (tN k) (.list (l.map tN)) = some (if neg then !decide (k ∈ l) else decide (k ∈ l)) := by
  have e : itemsOf (.list (l.map tN)) = some (l.map tN) := rfl
  simp only [cIn, e, Option.bind_some, sh_tN, sh_lT, and_self, if_true, any_T]
theorem layT_d (ls : List (List Nat)) : (tTT ls).canLay0 = true ∧ (tTT ls).depth ≤ 2 := by
  have := dep_tT ls
  exact ⟨by simp only [tTT, PyData.canLay0, lay_tT], by simp only [tTT, PyData.depth]; omega⟩
theorem smallTT : ∀ ds : List (List (List Nat)), (∀ ls ∈ ds, ls.length ≤ 600 ∧ ∀ l ∈ ls, l.length ≤ 100 ∧ ∀ k ∈ l, k < 10) → PyData.intsShortAll 13 (ds.map tTT) = true ∧ PyData.showableAll (ds.map tTT) = true ∧ PyData.weightAll (ds.map tTT) ≤ 300601 * ds.length ∧ PyData.canLayAll0 (ds.map tTT) = true ∧ PyData.depthAll (ds.map tTT) ≤ 2
  | [], _ => ⟨rfl, rfl, Nat.le_refl _, rfl, by simp [PyData.depthAll]⟩
  | a :: l, h => by
    obtain ⟨h1, h2, h3, h4, h5⟩ := smallTT l fun k hk => h k (List.mem_cons_of_mem _ hk)
    obtain ⟨g0, g⟩ := h a List.mem_cons_self
    obtain ⟨g1, g2, g3⟩ := smallT a g
    obtain ⟨g4, g5⟩ := layT_d a
    refine ⟨?_, ?_, ?_, ?_, ?_⟩
    · simp only [List.map_cons, PyData.intsShortAll, h1, Bool.and_true]
      exact g1
    · simp only [List.map_cons, PyData.showableAll, h2, Bool.and_true]
      exact g2
    · have : (tTT a).weight = PyData.weightAll (a.map tN) := rfl
      simp only [List.map_cons, PyData.weightAll, List.length_cons, this]
      omega
    · simp only [List.map_cons, PyData.canLayAll0, h4, g4, Bool.and_true]
    · simp only [List.map_cons, PyData.depthAll]
      omega
/-- repr of a list of up to three tuples of tuples of digits -/
theorem gRepr_lTT {ds : List (List (List Nat))} (h : ∀ ls ∈ ds, ls.length ≤ 600 ∧ ∀ l ∈ ls, l.length ≤ 100 ∧ ∀ k ∈ l, k < 10) (hz : ds.length ≤ 3) : gRepr [.list (ds.map tTT)] = some (.str (PyData.shown (.list (ds.map tTT)))) := by
  obtain ⟨h1, h2, h3, h4, h5⟩ := smallTT ds h
  refine gRepr_ok rfl ?_ h2 h1
  have e : PyData.layable0 (.list (ds.map tTT)) = (PyData.canLay0 (.list (ds.map tTT)) && decide (PyData.depth (.list (ds.map tTT)) ≤ 64) && decide (PyData.weight (.list (ds.map tTT)) ≤ 2 ^ 20)) := rfl
  have e2 : PyData.weight (.list (ds.map tTT)) = PyData.weightAll (ds.map tTT) := rfl
  have e3 : PyData.canLay0 (.list (ds.map tTT)) = PyData.canLayAll0 (ds.map tTT) := rfl
  have e4 : PyData.depth (.list (ds.map tTT)) = PyData.depthAll (ds.map tTT) + 1 := by simp only [PyData.depth]
  rw [e, e2, e3, e4, h4, Bool.true_and, Bool.and_eq_true]
  exact ⟨decide_eq_true (by omega), decide_eq_true (by have : (2 : Nat) ^ 20 = 1048576 := by decide
                                                       omega)⟩
end FL
set_option maxHeartbeats 1000000
/-! FY: loops that may end early; data of any kind; slices by numbers; doubles. -/
namespace FL
open PySem PySem.Spec PyProof.Rows L2
theorem forB_find {α : Type} (e : α → D) (p : Nat → α → Bool) (r : Nat → α → D) (I J : S → Prop) {a : Asg} {g : B Fl} : ∀ (xs : List α) (n : Nat) (s : S), I s →
    (∀ i x s, xs[i]? = some x → I s → ∃ s2 s3, a (e x) s = .ok () s2 ∧ (p (n + i) x = true → g s2 = .ok (.rt (r (n + i) x)) s3 ∧ J s3) ∧ (p (n + i) x = false → g s2 = .ok .nx s3 ∧ I s3)) →
    (∃ i x s', xs[i]? = some x ∧ p (n + i) x = true ∧ forB a g (xs.map e) s = .ok (.rt (r (n + i) x)) s' ∧ J s') ∨ ((∀ i x, xs[i]? = some x → p (n + i) x = false) ∧ ∃ s', forB a g (xs.map e) s = .ok .nx s' ∧ I s')
  | [], n, s, h0, _ => .inr ⟨fun i x h => by simp at h, s, rfl, h0⟩
  | x :: xs, n, s, h0, st => by
    obtain ⟨s2, s3, e1, ht, hf⟩ := st 0 x s rfl h0
    rw [Nat.add_zero] at ht hf
    cases hp : p n x with
    | true =>
      obtain ⟨e2, hJ⟩ := ht hp
      refine .inl ⟨0, x, s3, rfl, hp, ?_, hJ⟩
      rw [List.map_cons]
      unfold forB
      simp only [e1, e2, R.bind, Nat.add_zero]
    | false =>
      obtain ⟨e2, hI⟩ := hf hp
      have eq : forB a g ((x :: xs).map e) s = forB a g (xs.map e) s3 := by
        rw [List.map_cons]
        conv => lhs; unfold forB
        simp only [e1, e2, R.bind]
      have hn : ∀ i, n + 1 + i = n + (i + 1) := fun i => by omega
      rcases forB_find e p r I J xs (n + 1) s3 hI (fun i y s hy hs => by rw [hn]; exact st (i + 1) y s hy hs) with ⟨i, y, s', h1, h2, h3, h4⟩ | ⟨h1, s', h2, h3⟩
      · rw [hn] at h2 h3
        exact .inl ⟨i + 1, y, s', h1, h2, by rw [eq]; exact h3, h4⟩
      · refine .inr ⟨fun i y hy => ?_, s', by rw [eq]; exact h2, h3⟩
        cases i with
        | zero => cases hy; exact hp
        | succ i => rw [← hn]; exact h1 i y hy
/-- a loop that may end early -/
theorem sFor_find {α : Type} (e : α → D) (xs : List α) (p : Nat → α → Bool) (r : Nat → α → D) (I J : S → Prop) {fi : B (List D)} {a : Asg} {g : B Fl} {s s1 : S} (hf : fi s = .ok (xs.map e) s1) (h0 : I s1)
    (st : ∀ i x s, xs[i]? = some x → I s → ∃ s2 s3, a (e x) s = .ok () s2 ∧ (p i x = true → g s2 = .ok (.rt (r i x)) s3 ∧ J s3) ∧ (p i x = false → g s2 = .ok .nx s3 ∧ I s3)) :
    (∃ i x s', xs[i]? = some x ∧ p i x = true ∧ sFor fi a g s = .ok (.rt (r i x)) s' ∧ J s') ∨ ((∀ i x, xs[i]? = some x → p i x = false) ∧ ∃ s', sFor fi a g s = .ok .nx s' ∧ I s') := by
  have hz : ∀ i, 0 + i = i := Nat.zero_add
  have h := forB_find (a := a) (g := g) e p r I J xs 0 s1 h0 (fun i x s hx hs => by rw [hz]; exact st i x s hx hs)
  have eq : sFor fi a g s = forB a g (xs.map e) s1 := by
    unfold sFor
    rw [hf]
  rw [eq]
  simpa only [hz] using h
theorem fm_if {α β : Type} (f : α → β) (p : α → Bool) : ∀ l : List α, (l.filterMap fun x => if p x = true then some (f x) else none) = (l.filter p).map f
  | [] => rfl
  | a :: l => by
    rw [List.filterMap_cons, List.filter_cons, fm_if f p l]
    cases p a <;> rfl
theorem fm_some {α β : Type} (f : α → β) (l : List α) : (l.filterMap fun x => some (f x)) = l.map f := by
  rw [← List.filterMap_eq_map]
  rfl
/-! ### kinds -/
def isT : D → Bool
  | .tuple _ => true
  | _ => false
def isI : D → Bool
  | .int _ => true
  | _ => false
theorem isi_t {d : D} (h : (tyD d).isSome = true) : ((tyD d).bind fun t => (kitB t "tuple").map PyData.bool) = some (.bool (isT d)) := by
  cases d with
  | dict kvs =>
    cases kvs with
    | nil => rfl
    | cons _ _ => simp [tyD] at h
  | none => rfl
  | bool b => rfl
  | int b => rfl
  | str b => rfl
  | list b => rfl
  | tuple b => rfl
/-! ### slices by numbers -/
theorem sIx_nat {m k d : Nat} (h : k ≤ m) : HT.sIx m d (some (k : Nat)) = k := by
  simp only [HT.sIx]
  first
    | omega
    | (split <;> omega)
    | (simp; omega)
theorem cut_hiN {α : Type} (l : List α) (k : Nat) : FL.cut l none (some (k : Nat)) = l.take k := by
  unfold FL.cut
  by_cases h : k ≤ l.length
  · rw [sIx_nat h]
    have e : HT.sIx l.length 0 none = 0 := rfl
    rw [e, List.drop_zero, Nat.sub_zero]
  · have e : HT.sIx l.length l.length (some (k : Nat)) = l.length := by
      simp only [HT.sIx]
      first
        | omega
        | (split <;> omega)
        | (simp; omega)
    have e2 : HT.sIx l.length 0 none = 0 := rfl
    rw [e, e2, List.drop_zero, Nat.sub_zero, List.take_length, List.take_of_length_le (by omega)]
theorem cut_loN {α : Type} {l : List α} {k : Nat} (h : k ≤ l.length) : FL.cut l (some (k : Nat)) none = l.drop k := by
  unfold FL.cut
  rw [sIx_nat h]
  have e : HT.sIx l.length l.length none = l.length := rfl
  rw [e, List.take_of_length_le (by rw [List.length_drop]; omega)]
theorem cut_mem {α : Type} {xs : List α} {lo hi : Option Int} {x : α} (h : x ∈ FL.cut xs lo hi) : x ∈ xs := List.mem_of_mem_drop (List.mem_of_mem_take h)
theorem cut_len {α : Type} (xs : List α) (lo hi : Option Int) : (FL.cut xs lo hi).length ≤ xs.length := by
  unfold FL.cut
  rw [List.length_take, List.length_drop]
  omega
theorem asInt_n (k : Nat) : asInt (nD k) = some (k : Int) := rfl
/-! ### doubles -/
theorem ddp_le : ∀ l : List Int, (ddp l).length ≤ l.length
  | [] => Nat.le_refl _
  | a :: l => by
    have := ddp_le l
    unfold ddp
    split
    · exact Nat.le_succ_of_le this
    · exact Nat.succ_le_succ this
theorem ddp_nd : ∀ l : List Int, (ddp l).length = l.length ↔ l.Nodup
  | [] => by simp [ddp]
  | a :: l => by
    have ih := ddp_nd l
    have hle := ddp_le l
    have hm := (ddp_spec l).2
    rw [List.nodup_cons, ← ih, ← hm]
    have e : ddp (a :: l) = if a ∈ ddp l then ddp l else a :: ddp l := rfl
    by_cases c : a ∈ ddp l
    · rw [e, if_pos c]
      constructor
      · intro h; simp only [List.length_cons] at h; omega
      · intro h; exact absurd c h.1
    · rw [e, if_neg c]
      simp only [List.length_cons, Nat.succ.injEq, Nat.add_right_cancel_iff]
      exact ⟨fun h => ⟨c, h⟩, fun h => h.2⟩
theorem intsD_nD (l : List Nat) : intsD (l.map nD) = some (l.map fun k : Nat => (k : Int)) := by
  have : l.map nD = (l.map fun k : Nat => (k : Int)).map PyData.int := by rw [List.map_map]; rfl
  rw [this, intsD_map]
theorem nodup_cast {l : List Nat} : (l.map fun k : Nat => (k : Int)).Nodup ↔ l.Nodup := by
  unfold List.Nodup
  rw [List.pairwise_map]
  constructor
  · intro h; exact h.imp fun h e => h (by rw [e])
  · intro h; exact h.imp fun h e => h (by omega)
theorem gLenSet_n {l : List Nat} (h : l.length ≤ 1000) : gLenSet (tN l) = some (nD (ddp (l.map fun k : Nat => (k : Int))).length) := by
  show ((intsD (l.map nD)).bind fun ns => if ns.length ≤ 1000 then some (PyData.int (ddp ns).length) else none) = _
  rw [intsD_nD]
  simp only [Option.bind_some, List.length_map, h, if_true]
  rfl
/-- each item unlike those ahead -/
theorem all_unlike (l : List Nat) : ((l.zipIdx).all fun x => !decide (x.1 ∈ l.take x.2)) = decide l.Nodup := by
  rw [Bool.eq_iff_iff, List.all_eq_true, decide_eq_true_iff]
  unfold List.Nodup
  rw [List.pairwise_iff_getElem]
  constructor
  · intro h i j hi hj hij e
    have := h (l[j], j) (by rw [List.mem_iff_getElem?]; exact ⟨j, by rw [List.getElem?_zipIdx, List.getElem?_eq_getElem hj]; simp⟩)
    simp only [Bool.not_eq_true', decide_eq_false_iff_not] at this
    apply this
    rw [← e, List.mem_iff_getElem?]
    exact ⟨i, by rw [List.getElem?_take, if_pos hij, List.getElem?_eq_getElem hi]⟩
  · intro h x hx
    obtain ⟨y, j⟩ := x
    rw [List.mem_iff_getElem?] at hx
    obtain ⟨k, hk⟩ := hx
    rw [List.getElem?_zipIdx] at hk
    obtain ⟨z, hz, e⟩ := Option.map_eq_some_iff.mp hk
    simp only [Prod.mk.injEq, Nat.zero_add] at e
    obtain ⟨rfl, rfl⟩ := e
    obtain ⟨hk, hz⟩ := List.getElem?_eq_some_iff.mp hz
    simp only [Bool.not_eq_true', decide_eq_false_iff_not]
    intro hm
    rw [List.mem_iff_getElem?] at hm
    obtain ⟨i, hi⟩ := hm
    rw [List.getElem?_take] at hi
    split at hi
    · rename_i c
      obtain ⟨hi', e⟩ := List.getElem?_eq_some_iff.mp hi
      exact h i k hi' hk c (by rw [e, hz])
    · cases hi
theorem gAny_map {α : Type} (al : Bool) (f : α → Bool) (l : List α) : gAny al [.list (l.map fun x => PyData.bool (f x))] = some (.bool (if al then l.all f else l.any f)) := by
  have e : (l.map fun x => PyData.bool (f x)) = (l.map f).map PyData.bool := by rw [List.map_map]; rfl
  rw [e, gAny_bl]
  cases al
  · simp [List.any_map]
  · simp [List.all_map]
theorem cIn_nN (neg : Bool) (k : Nat) (l : List Nat) : cIn neg (nD k) (tN l) = some (if neg then !decide (k ∈ l) else decide (k ∈ l)) := by
  have e : itemsOf (tN l) = some (l.map nD) := rfl
  have e2 : ((l.map nD).any fun z => PyData.eqv z (nD k)) = decide (k ∈ l) := by
    rw [List.any_map]
    have : ((fun z => PyData.eqv z (nD k)) ∘ nD) = fun a => decide (a = k) := by funext a; simp only [Function.comp, eqv_n]
    rw [this, Bool.eq_iff_iff]
    simp
  simp only [cIn, e, Option.bind_some, sh_n, sh_tN, and_self, if_true, e2]
theorem cNe_lN {a b : List Nat} : cNe (.list (a.map nD)) (.list (b.map nD)) = some (!decide (a = b)) := by rw [cNe_s (sh_lN a) (sh_lN b), eqv_lN]
/-- lists of small data can be told apart from [] -/
theorem cNe_nil {ds : List D} (h : SeqAt.shaped (.list ds) = true) : cNe (.list ds) (.list []) = some (!ds.isEmpty) := by
  rw [cNe_s h sh_nilL]
  cases ds <;> simp [PyData.eqv, PyData.eqvAll]
theorem cEq_nil {ds : List D} (h : SeqAt.shaped (.list ds) = true) : cEq (.list ds) (.list []) = some ds.isEmpty := by
  rw [cEq_s h sh_nilL]
  cases ds <;> simp [PyData.eqv, PyData.eqvAll]
section
variable {env : List Sl} {p : Option (List Int)} {sa sb : B Src} {f : B D}
theorem eLenSet_a : eLenSet sa ⟨env, p⟩ = (sa ⟨env, p⟩).bind fun x s1 => (rd x s1).bind fun d s2 => FL.lift (gLenSet d) s2 := rfl
theorem eRev_a : eRev sa ⟨env, p⟩ = (sa ⟨env, p⟩).bind fun x s1 => (rd x s1).bind fun d s2 => FL.lift (gRev d) s2 := rfl
theorem eTR1_a : eTR1 f ⟨env, p⟩ = (f ⟨env, p⟩).bind fun d s1 => FL.lift (match d with
    | .int n => if okRg 0 n then some (.tuple (rangeD 0 n)) else none
    | _ => none) s1 := rfl
theorem eRepL_a : eRepL sa sb ⟨env, p⟩ = (sa ⟨env, p⟩).bind fun x s1 => (sb s1).bind fun y s2 => (rd x s2).bind fun d s3 => (rd y s3).bind fun e s4 => FL.lift (gRepL d e) s4 := rfl
end
end FL
set_option maxHeartbeats 4000000
namespace M
open PySem PySem.Spec PyProof.Rows L2 FL
def topS (i : Nat) : Stmt := PySem.Challenge.pw_wishpairs_k03_whole_books_of_anything.main.body.getD i (.Pass ⟨0, 0, 0, 0⟩)
abbrev s__law_same : Stmt := topS 17
abbrev s__law_draw : Stmt := topS 14
abbrev s__law_mixed : Stmt := topS 20
abbrev s__law_book : Stmt := topS 21
abbrev s__law_couples : Stmt := topS 24
abbrev s__law_put : Stmt := topS 18
abbrev s__law_bent_books : Stmt := topS 23
abbrev s__law_pick : Stmt := topS 15
abbrev s_is_whole : Stmt := topS 1
abbrev s_is_between : Stmt := topS 2
abbrev s_is_person : Stmt := topS 5
abbrev s_is_row : Stmt := topS 6
abbrev s_has_strangers : Stmt := topS 7
abbrev s_wrong_in_book : Stmt := topS 8
abbrev s_is_book_by : Stmt := topS 9
abbrev s_is_book : Stmt := topS 11
abbrev s__law_tells : Stmt := topS 19
abbrev s__law_is_whole : Stmt := topS 16
abbrev s__law_wrong_book : Stmt := topS 22
abbrev s__law_right : Stmt := topS 25
abbrev s__law_pool : Stmt := topS 13
abbrev s_law : Stmt := topS 26
def m__law_same (sf : Fn) : B Fl := sSeq (sIf (eTruth (toSrc (eIsi "tuple" (eN 0)))) (sRet (vAnd (eIsi "tuple" (eN 1)) (vAnd (eBool (eCmp cEq (toSrc (eCall1 gLen (sCons (eN 0) (sNil)))) (toSrc (eCall1 gLen (sCons (eN 1) (sNil)))))) (eBool (eCmp cEq (toSrc (eL (eLc (iR1 (eCall1 gLen (sCons (eN 0) (sNil)))) [2] (aN 2) (bNot (eTruth (toSrc (eCall sf (eCons (eIx (eN 0) (eV 2)) (eCons (eIx (eN 1) (eV 2)) (eNil))))))) (eV 2)))) (toSrc (eL (eLst (eNil))))))))) (sNx)) (sSeq (sIf (bOr (eTruth (toSrc (eIsi "bool" (eN 0)))) (eTruth (toSrc (eIsi "bool" (eN 1))))) (sRet (vAnd (eIsi "bool" (eN 0)) (vAnd (eIsi "bool" (eN 1)) (eBool (eCmp cEq (eN 0) (eN 1)))))) (sNx)) (sRet (vAnd (eBool (eCmp cEq (toSrc (eIsi "int" (eN 0))) (toSrc (eIsi "int" (eN 1))))) (vAnd (eBool (eCmp cEq (toSrc (eIsi "str" (eN 0))) (toSrc (eIsi "str" (eN 1))))) (eBool (eCmp cEq (eN 0) (eN 1)))))))
def r__law_same : Nat → Fn
  | 0 => fnB 2 3 sNever
  | j + 1 => fnB 2 3 (m__law_same (r__law_same j))
def f__law_same : Fn := r__law_same 12
def m__law_draw : B Fl := sSeq (sIf (eCmp cGt (toSrc (eIx (eP 0) (eC (.int 1)))) (toSrc (eC (.int 0)))) (sSeq (sAsg (eDm (eIx (eP 0) (eC (.int 1))) (eV 1)) (aTup (aCons (aPool 0 1) (aCons (aN 2) (aNil))))) (sRet (eV 2))) (sNx)) (sSeq (sAsg (e2 gAdd (eIx (eP 0) (eC (.int 2))) (eC (.int 1))) (aPool 0 2)) (sSeq (sSet 3 (eCall1 gInt (sCons (toSrc (eIx (eP 0) (eC (.int 0)))) (sNil)))) (sSeq (sAsg (e2 gMod (eCall1 gInt (sCons (toSrc (e2 gAdd (e2 gAdd (e2 gMul (eV 3) (e2 gAdd (e2 gMod (eV 3) (eC (.int 20011))) (eC (.int 30011)))) (e2 gMul (eC (.int 70001)) (eIx (eP 0) (eC (.int 2))))) (eC (.int 9)))) (sNil))) (eC (.int 2147483563))) (aPool 0 0)) (sRet (e2 gMod (eCall1 gInt (sCons (toSrc (e2 gDiv (eIx (eP 0) (eC (.int 0))) (eC (.int 128)))) (sNil))) (eV 1))))))
def f__law_draw : Fn := fnB 2 4 m__law_draw
def m__law_mixed : B Fl := sSeq (sPar [2, 3] (mV (eL (eCallL gLstOf (sCons (eN 1) (sNil)))) (mO (eLst (eNil)) (mNil)))) (sSeq (sFor (iR1 (eCall1 gLen (sCons (eN 2) (sNil)))) (aN 4) (sSeq (sSet 5 (eCallP f__law_draw (eCons (eV 0) (eCons (eCall1 gLen (sCons (eN 2) (sNil))) (eNil))))) (sSeq (sApp 3 (eIx (eN 2) (eV 5))) (sSet 2 (e2 gAdd (eSl (eN 2) (pNo) (pSo (eV 5))) (eSl (eN 2) (pSo (e2 gAdd (eV 5) (eC (.int 1)))) (pNo))))))) (sRet (eV 3)))
def f__law_mixed : Fn := fnB 2 6 m__law_mixed
def m__law_book : B Fl := sSeq (sPar [2, 3, 4] (mV (eCallP f__law_draw (eCons (eV 0) (eCons (eC (.int 5)) (eNil)))) (mV (e2 gAdd (eC (.int 1)) (eCallP f__law_draw (eCons (eV 0) (eCons (eC (.int 4)) (eNil))))) (mO (eLst (eNil)) (mNil))))) (sSeq (sSetO 5 (eLst (eNil))) (sSeq (sFor (iR1 (eV 1)) (aN 6) (sFor (iR2 (e2 gAdd (eV 6) (eC (.int 1))) (eV 1)) (aN 7) (sIf (bOr (eCmp (cIn false) (eN 2) (toSrc (eTup (eCons (eC (.int 0)) (eCons (eC (.int 3)) (eNil)))))) (bOr (bAnd (eCmp cEq (eN 2) (toSrc (eC (.int 1)))) (eCmp cLt (toSrc (eCallP f__law_draw (eCons (eV 0) (eCons (eC (.int 4)) (eNil))))) (eN 3))) (bOr (bAnd (eCmp cEq (eN 2) (toSrc (eC (.int 2)))) (bAnd (eCmp cEq (toSrc (e2 gMod (eCall1 gInt (sCons (toSrc (e2 gAdd (eV 6) (eV 7))) (sNil))) (eC (.int 2)))) (toSrc (eC (.int 1)))) (eCmp cLt (toSrc (eCallP f__law_draw (eCons (eV 0) (eCons (eC (.int 5)) (eNil))))) (toSrc (eC (.int 4)))))) (bAnd (eCmp cEq (eN 2) (toSrc (eC (.int 4)))) (eCmp cGt (toSrc (eCallP f__law_draw (eCons (eV 0) (eCons (eC (.int 3)) (eNil))))) (toSrc (eC (.int 0)))))))) (sApp 5 (eTup (eCons (eV 6) (eCons (eV 7) (eNil))))) (sNx)))) (sSeq (sFor (iR1 (eV 1)) (aN 6) (sSeq (sSet 8 (eL (eLc (iR1 (eV 1)) [7] (aN 7) (eCmp (cIn false) (toSrc (eTup (eCons (eCall1 gMin2 (sCons (eN 6) (sCons (eN 7) (sNil)))) (eCons (eCall1 gMax2 (sCons (eN 6) (sCons (eN 7) (sNil)))) (eNil))))) (eN 5)) (eV 7)))) (sSeq (sSet 9 (eCallP f__law_mixed (eCons (eV 0) (eCons (eV 8) (eNil))))) (sSeq (sIf (bAnd (eCmp cEq (eN 2) (toSrc (eC (.int 3)))) (eCmp cGt (toSrc (eCallP f__law_draw (eCons (eV 0) (eCons (eC (.int 3)) (eNil))))) (toSrc (eC (.int 0))))) (sSet 9 (eL (eLc (iR2 (eC (.int 1)) (eV 1)) [10] (aN 10) (bYes) (e2 gMod (eCall1 gInt (sCons (toSrc (e2 gAdd (eV 6) (eV 10))) (sNil))) (eV 1))))) (sNx)) (sApp 4 (eCall1 gTupOf (sCons (eN 9) (sNil)))))))) (sRet (eCall1 gTupOf (sCons (eN 4) (sNil)))))))
def f__law_book : Fn := fnB 2 11 m__law_book
def m__law_couples : B Fl := sSeq (sSet 1 (eL (eLst (eNil)))) (sSeq (sFor (iR1 (eCall1 gLen (sCons (eN 0) (sNil)))) (aN 2) (sSet 1 (e2 gAdd (eV 1) (eL (eLc (iR2 (e2 gAdd (eV 2) (eC (.int 1))) (eCall1 gLen (sCons (eN 0) (sNil)))) [3] (aN 3) (eCmp (cIn false) (eN 3) (toSrc (eIx (eN 0) (eV 2)))) (eTup (eCons (eV 2) (eCons (eV 3) (eNil))))))))) (sRet (eV 1)))
def f__law_couples : Fn := fnB 1 4 m__law_couples
def m__law_put : B Fl := sRet (e2 gAdd (e2 gAdd (eSl (eN 0) (pNo) (pSo (eV 1))) (eTup (eCons (eV 2) (eNil)))) (eSl (eN 0) (pSo (e2 gAdd (eV 1) (eC (.int 1)))) (pNo)))
def f__law_put : Fn := fnB 3 3 m__law_put
def m__law_bent_books : B Fl := sSeq (sAsg (eTup (eCons (eCallP f__law_draw (eCons (eV 0) (eCons (eCall1 gLen (sCons (eN 1) (sNil))) (eNil)))) (eCons (eCall1 gLen (sCons (eN 1) (sNil))) (eNil)))) (aTup (aCons (aN 2) (aCons (aN 3) (aNil))))) (sSeq (sSet 4 (eIx (eN 1) (eV 2))) (sSeq (sSet 5 (eL (eLst (eCons (eV 1) (eCons (eL (eCallL gLstOf (sCons (eN 1) (sNil)))) (eCons (eTup (eNil)) (eCons (eC .none) (eCons (eC (.int 0)) (eCons (eC (.dict [])) (eCons (eC (.str "0 1")) (eCons (eTup (eCons (eV 1) (eNil))) (eCons (eV 4) (eCons (e2 gAdd (eV 1) (eTup (eCons (eTup (eNil)) (eNil)))) (eCons (eSl (eN 1) (pSo (eC (.int 1))) (pNo)) (eCons (eSl (eN 1) (pNo) (pSo (e1 gNeg (eC (.int 1))))) (eCons (e2 gMulT (eTup (eCons (eTup (eNil)) (eNil))) (eC (.int 8))) (eCons (eSl (toSrc (e2 gMulT (eV 1) (eC (.int 8)))) (pNo) (pSo (eC (.int 8)))) (eCons (eRev (eN 1)) (eNil))))))))))))))))))) (sSeq (sSet 6 (eL (eLst (eCons (eC .none) (eCons (eL (eCallL gLstOf (sCons (eN 4) (sNil)))) (eCons (e2 gAdd (eV 4) (eTup (eCons (eV 2) (eNil)))) (eCons (e2 gAdd (eV 4) (eTup (eCons (eV 3) (eNil)))) (eCons (e2 gAdd (eV 4) (eTup (eCons (e1 gNeg (eC (.int 1))) (eNil)))) (eCons (e2 gAdd (eV 4) (eTup (eCons (eC .none) (eNil)))) (eCons (e2 gAdd (eV 4) (eTup (eCons (eC (.bool true)) (eNil)))) (eCons (e2 gAdd (eV 4) (eTup (eCons (eC (.str "0")) (eNil)))) (eCons (e2 gAdd (eV 4) (eSl (eN 4) (pNo) (pSo (eC (.int 1))))) (eCons (eSl (eN 4) (pSo (eC (.int 1))) (pNo)) (eCons (eSl (eN 4) (pNo) (pSo (e1 gNeg (eC (.int 1))))) (eNil))))))))))))))) (sSeq (sSet 6 (e2 gAdd (eV 6) (eL (eLst (eCons (eRev (eN 4)) (eCons (eTup (eNil)) (eCons (eC (.int 0)) (eCons (eTup (eCons (eV 4) (eNil))) (eCons (eTR1 (eV 3)) (eCons (e2 gAdd (eV 4) (eTup (eCons (eCallP f__law_draw (eCons (eV 0) (eCons (eV 3) (eNil)))) (eNil)))) (eNil))))))))))) (sRet (e2 gAdd (eV 5) (eL (eLc (iItems (eV 6)) [7] (aN 7) (bYes) (eCall f__law_put (eCons (eV 1) (eCons (eV 2) (eCons (eV 7) (eNil)))))))))))))
def f__law_bent_books : Fn := fnB 2 8 m__law_bent_books
def m__law_pick : B Fl := sRet (eIx (eN 1) (eCallP f__law_draw (eCons (eV 0) (eCons (eCall1 gLen (sCons (eN 1) (sNil))) (eNil)))))
def f__law_pick : Fn := fnB 2 2 m__law_pick
def m_is_whole : B Fl := sRet (vAnd (eIsi "int" (eN 0)) (eBool (bNot (eTruth (toSrc (eIsi "bool" (eN 0)))))))
def f_is_whole : Fn := fnB 1 1 m_is_whole
def m_is_between : B Fl := sRet (vAnd (eCall f_is_whole (eCons (eV 0) (eNil))) (eBool (eChain cLe cLe (eV 1) (eV 0) (eV 2))))
def f_is_between : Fn := fnB 3 3 m_is_between
def m_is_person : B Fl := sRet (eCall f_is_between (eCons (eV 1) (eCons (eC (.int 0)) (eCons (e2 gSub (eV 0) (eC (.int 1))) (eNil)))))
def f_is_person : Fn := fnB 2 2 m_is_person
def m_is_row : B Fl := sSeq (sIf (bOr (bNot (eTruth (toSrc (eIsi "tuple" (eN 2))))) (bNot (eTruth (toSrc (eCall1 (gAny true) (sCons (toSrc (eL (eLc (iItems (eV 2)) [3] (aN 3) (bYes) (vAnd (eCall f_is_person (eCons (eV 0) (eCons (eV 3) (eNil)))) (eBool (eCmp cNe (eN 3) (eN 1))))))) (sNil))))))) (sRet (eC (.bool false))) (sNx)) (sRet (eCall1 (gAny true) (sCons (toSrc (eL (eLc (iEn (eV 2)) [3, 4] (aTup (aCons (aN 4) (aCons (aN 3) (aNil)))) (bYes) (eBool (eCmp (cIn true) (eN 3) (toSrc (eSl (eN 2) (pNo) (pSo (eV 4))))))))) (sNil))))
def f_is_row : Fn := fnB 3 5 m_is_row
def m_has_strangers : B Fl := sRet (eCall1 (gAny false) (sCons (toSrc (eL (eLc (iItems (eIx (eN 0) (eV 1))) [2] (aN 2) (bYes) (eBool (eCmp (cIn true) (eN 1) (toSrc (eIx (eN 0) (eV 2)))))))) (sNil)))
def f_has_strangers : Fn := fnB 2 3 m_has_strangers
def m_wrong_in_book : B Fl := sSeq (sIf (bOr (bNot (eTruth (toSrc (eIsi "tuple" (eN 0))))) (bNot (eChain cLe cLe (eC (.int 1)) (eCall1 gLen (sCons (eN 0) (sNil))) (eC (.int 7))))) (sRet (eL (eLst (eCons (eC .none) (eNil))))) (sNx)) (sSeq (sSet 1 (eL (eLc (iEn (eV 0)) [2, 3] (aTup (aCons (aN 2) (aCons (aN 3) (aNil)))) (bNot (eTruth (toSrc (eCall f_is_row (eCons (eCall1 gLen (sCons (eN 0) (sNil))) (eCons (eV 2) (eCons (eV 3) (eNil)))))))) (eV 2)))) (sSeq (sIf (eCmp cNe (eN 1) (toSrc (eL (eLst (eNil))))) (sRet (eSl (eN 1) (pNo) (pSo (eC (.int 1))))) (sNx)) (sRet (eSl (toSrc (eL (eLc (iR1 (eCall1 gLen (sCons (eN 0) (sNil)))) [2] (aN 2) (eTruth (toSrc (eCall f_has_strangers (eCons (eV 0) (eCons (eV 2) (eNil)))))) (eV 2)))) (pNo) (pSo (eC (.int 1)))))))
def f_wrong_in_book : Fn := fnB 1 4 m_wrong_in_book
def m_is_book_by : B Fl := sRet (eBool (eCmp cEq (toSrc (eCall f_wrong_in_book (eCons (eV 0) (eNil)))) (toSrc (eL (eLst (eNil))))))
def f_is_book_by : Fn := fnB 1 1 m_is_book_by
def m_is_book : B Fl := sRet (eCall f_is_book_by (eCons (eV 0) (eNil)))
def f_is_book : Fn := fnB 1 1 m_is_book
def m__law_tells : B Fl := sRet (eIf (eTruth (eN 1)) (eBool (eCmp (cIs false) (eN 0) (toSrc (eC (.bool true))))) (eBool (eCmp (cIs false) (eN 0) (toSrc (eC (.bool false))))))
def f__law_tells : Fn := fnB 2 2 m__law_tells
def m__law_is_whole : B Fl := sRet (vAnd (eIsi "int" (eN 0)) (eBool (bNot (eTruth (toSrc (eIsi "bool" (eN 0)))))))
def f__law_is_whole : Fn := fnB 1 1 m__law_is_whole
def m__law_wrong_book : B Fl := sSeq (sIf (bOr (bNot (eTruth (toSrc (eIsi "tuple" (eN 0))))) (bNot (eChain cLt cLt (eC (.int 0)) (eCall1 gLen (sCons (eN 0) (sNil))) (eC (.int 8))))) (sRet (eL (eLst (eCons (eC .none) (eNil))))) (sNx)) (sSeq (sFor (iEn (eV 0)) (aTup (aCons (aN 1) (aCons (aN 2) (aNil)))) (sIf (bOr (bNot (eTruth (toSrc (eIsi "tuple" (eN 2))))) (bOr (eCmp cNe (toSrc (eL (eLc (iItems (eV 2)) [3] (aN 3) (bOr (bNot (eTruth (toSrc (eCall f__law_is_whole (eCons (eV 3) (eNil)))))) (bOr (bNot (eChain cLt cLt (e1 gNeg (eC (.int 1))) (eV 3) (eCall1 gLen (sCons (eN 0) (sNil))))) (eCmp cEq (eN 3) (eN 1)))) (eV 3)))) (toSrc (eL (eLst (eNil))))) (eCmp cLt (toSrc (eLenSet (eN 2))) (toSrc (eCall1 gLen (sCons (eN 2) (sNil))))))) (sRet (eL (eLst (eCons (eV 1) (eNil))))) (sNx))) (sSeq (sFor (iEn (eV 0)) (aTup (aCons (aN 1) (aCons (aN 2) (aNil)))) (sIf (eCmp cNe (toSrc (eL (eLc (iItems (eV 2)) [3] (aN 3) (eCmp (cIn true) (eN 1) (toSrc (eIx (eN 0) (eV 3)))) (eV 3)))) (toSrc (eL (eLst (eNil))))) (sRet (eL (eLst (eCons (eV 1) (eNil))))) (sNx))) (sRet (eL (eLst (eNil))))))
def f__law_wrong_book : Fn := fnB 1 4 m__law_wrong_book
def m__law_right : B Fl := sSeq (sFor (iItems (eL (eLst (eCons (eC (.int 1)) (eCons (eC (.int 2)) (eCons (eC (.int 3)) (eCons (eC (.int 3)) (eCons (eC (.int 4)) (eCons (eC (.int 5)) (eCons (eC (.int 6)) (eCons (eC (.int 7)) (eNil)))))))))))) (aN 1) (sSeq (sSet 2 (eCallP f__law_book (eCons (eV 0) (eCons (eV 1) (eNil))))) (sSeq (sIf (bOr (eCmp (cIs true) (toSrc (eCall f_is_book (eCons (eV 2) (eNil)))) (toSrc (eC (.bool true)))) (bOr (eCmp (cIs true) (toSrc (eCall f_is_book (arrB 0 1 [0] (eNil) (eCons (eCall1 gTupOf (sCons (toSrc (eL (eLc (iItems (eV 2)) [3] (aN 3) (bYes) (eCall1 gTupOf (sCons (toSrc (eCallP f__law_mixed (eCons (eV 0) (eCons (eV 3) (eNil))))) (sNil)))))) (sNil))) (eNil))))) (toSrc (eC (.bool true)))) (eCmp (cIs true) (toSrc (eCall f_is_book (eCons (eCall1 gTupOf (sCons (toSrc (eL (eLc (iItems (eV 2)) [3] (aN 3) (bYes) (eRev (eN 3))))) (sNil))) (eNil)))) (toSrc (eC (.bool true)))))) (sRet (eC (.bool false))) (sNx)) (sSeq (sFor (iItems (e2 gAdd (e2 gAdd (eCallP f__law_bent_books (eCons (eV 0) (eCons (eV 2) (eNil)))) (eCallP f__law_bent_books (eCons (eV 0) (eCons (eV 2) (eNil))))) (eCallP f__law_bent_books (eCons (eV 0) (eCons (eV 2) (eNil)))))) (aN 4) (sSeq (sSet 5 (eIf (eCmp cEq (toSrc (eCallP f__law_draw (eCons (eV 0) (eCons (eC (.int 4)) (eNil))))) (toSrc (eC (.int 0)))) (eCall f_is_book (arrB 0 1 [0] (eNil) (eCons (eV 4) (eNil)))) (eCall f_is_book (eCons (eV 4) (eNil))))) (sIf (bNot (eTruth (toSrc (eCall f__law_tells (eCons (eV 5) (eCons (eBool (eCmp cEq (toSrc (eCall f__law_wrong_book (eCons (eV 4) (eNil)))) (toSrc (eL (eLst (eNil)))))) (eNil))))))) (sRet (eC (.bool false))) (sNx)))) (sSeq (sSet 6 (eCall f__law_couples (eCons (eV 2) (eNil)))) (sIf (eCmp cNe (eN 6) (toSrc (eL (eLst (eNil))))) (sSeq (sAsg (eCallP f__law_pick (eCons (eV 0) (eCons (eV 6) (eNil)))) (aTup (aCons (aN 7) (aCons (aN 8) (aNil))))) (sSeq (sSet 9 (eCall f__law_put (eCons (eV 2) (eCons (eV 7) (eCons (eCall1 gTupOf (sCons (toSrc (eL (eLc (iItems (eIx (eN 2) (eV 7))) [10] (aN 10) (eCmp cNe (eN 10) (eN 8)) (eV 10)))) (sNil))) (eNil)))))) (sSeq (sSet 11 (eCall f__law_put (eCons (eV 9) (eCons (eV 8) (eCons (eCall1 gTupOf (sCons (toSrc (eL (eLc (iItems (eIx (eN 2) (eV 8))) [10] (aN 10) (eCmp cNe (eN 10) (eN 7)) (eV 10)))) (sNil))) (eNil)))))) (sIf (bNot (eTruth (toSrc (eCall f__law_same (eCons (eL (eLst (eCons (eCall f_is_book (eCons (eV 9) (eNil))) (eCons (eCall f_is_book (eCons (eV 11) (eNil))) (eNil))))) (eCons (eL (eLst (eCons (eC (.bool false)) (eCons (eC (.bool true)) (eNil))))) (eNil))))))) (sRet (eC (.bool false))) (sNx))))) (sNx))))))) (sSeq (sSet 12 (eL (eLst (eCons (eTup (eCons (eTup (eNil)) (eNil))) (eCons (eTup (eCons (eTup (eCons (eC (.int 1)) (eNil))) (eCons (eTup (eCons (eC (.int 0)) (eNil))) (eNil)))) (eCons (eTup (eCons (eTup (eCons (eC (.int 1)) (eNil))) (eCons (eTup (eNil)) (eNil)))) (eCons (eTup (eCons (eTup (eCons (eC (.int 0)) (eNil))) (eNil))) (eCons (eTup (eNil)) (eCons (e2 gMulT (eTup (eCons (eTup (eNil)) (eNil))) (eC (.int 7))) (eCons (e2 gMulT (eTup (eCons (eTup (eNil)) (eNil))) (eC (.int 8))) (eCons (eTup (eCons (eTup (eCons (eC (.int 1)) (eCons (eC (.int 2)) (eNil)))) (eCons (eTup (eCons (eC (.int 2)) (eCons (eC (.int 0)) (eNil)))) (eCons (eTup (eCons (eC (.int 0)) (eCons (eC (.int 1)) (eNil)))) (eNil))))) (eCons (eTup (eCons (eTup (eCons (eC (.int 1)) (eCons (eC (.int 1)) (eNil)))) (eCons (eTup (eCons (eC (.int 0)) (eNil))) (eNil)))) (eCons (eTup (eCons (eTup (eCons (eC (.bool true)) (eNil))) (eCons (eTup (eCons (eC (.int 0)) (eNil))) (eNil)))) (eCons (eTup (eCons (eTup (eCons (eC (.int 1)) (eNil))) (eCons (eTup (eCons (eC (.bool false)) (eNil))) (eNil)))) (eNil))))))))))))))) (sRet (eCall f__law_same (eCons (eL (eLc (iItems (eV 12)) [10] (aN 10) (bYes) (eCall f_is_book (eCons (eV 10) (eNil))))) (eCons (eL (eLst (eCons (eC (.bool true)) (eCons (eC (.bool true)) (eCons (eC (.bool false)) (eCons (eC (.bool false)) (eCons (eC (.bool false)) (eCons (eC (.bool true)) (eCons (eC (.bool false)) (eCons (eC (.bool true)) (eCons (eC (.bool false)) (eCons (eC (.bool false)) (eCons (eC (.bool false)) (eNil)))))))))))))) (eNil))))))
def f__law_right : Fn := fnB 1 13 m__law_right
def m__law_pool : B (List D) := sSeqL (sPar [2, 3] (mV (eIf (eCmp cLt (eN 1) (toSrc (eCall1 gLen (sCons (eN 0) (sNil))))) (eCall1 gInt (sCons (toSrc (eIx (eN 0) (eV 1))) (sNil))) (e2 gAdd (e2 gMul (eC (.int 70001)) (eV 1)) (eC (.int 16319)))) (mV (e2 gAdd (eC (.int 2144653)) (e2 gMul (eC (.int 5087)) (eV 1))) (mNil)))) (sSeqL (sFor (iItems (eSl (eN 0) (pNo) (pSo (eC (.int 63))))) (aN 4) (sSet 3 (e2 gMod (eCall1 gInt (sCons (toSrc (e2 gAdd (e2 gAdd (e2 gMul (eV 3) (eC (.int 48271))) (e2 gMod (eCall1 gInt (sCons (eN 4) (sNil))) (eC (.int 2147483563)))) (eC (.int 2093)))) (sNil))) (eC (.int 2147483563))))) (eLst (eCons (e2 gMod (eCall1 gInt (sCons (toSrc (e2 gAdd (eV 3) (e2 gMul (eV 2) (eC (.int 1013))))) (sNil))) (eC (.int 2147483563))) (eCons (eIf (bOr (eCmp cLt (eN 2) (toSrc (eC (.int 0)))) (eCmp cGe (eN 2) (toSrc (e2 gPow (eC (.int 10)) (eC (.int 18)))))) (eCall1 gAbs (sCons (eN 2) (sNil))) (eC (.int 0))) (eCons (eC (.int 0)) (eNil))))))
def f__law_pool : FnL := fnL 2 5 m__law_pool
def m_law : B Fl := sSeq (sFor (iR1 (eCall1 gMax2 (sCons (toSrc (eC (.int 2))) (sCons (toSrc (eCall1 gMin2 (sCons (toSrc (eCall1 gLen (sCons (eN 0) (sNil)))) (sCons (toSrc (eC (.int 3))) (sNil))))) (sNil))))) (aN 1) (sIf (bNot (eTruth (toSrc (eCallX f__law_right (eCallO f__law_pool (eCons (eV 0) (eCons (eV 1) (eNil)))))))) (sRet (eC (.bool false))) (sNx))) (sRet (eC (.bool true)))
def f_law : Fn := fnB 1 2 m_law
end M
set_option maxHeartbeats 4000000
namespace M
open PySem PySem.Spec PyProof.Rows L2 FL
theorem sc__law_same : FnScope ["one", "other", "k"] ["one", "other"] (defScope s__law_same) := ⟨rfl, rfl, rfl, by decide +kernel, rfl, by decide +kernel, by decide +kernel⟩
theorem b__law_same_p {K : PySem.W.Frag} : BindP K "_law_same" "_law_same" s__law_same ["one", "other"] := bindP fun _ _ _ _ _ _ us hl => match us, hl with | [_, _], _ => rfl
theorem sc__law_draw : FnScope ["pool", "many", "figure", "held"] ["pool", "many"] (defScope s__law_draw) := ⟨rfl, rfl, rfl, by decide +kernel, rfl, by decide +kernel, by decide +kernel⟩
theorem b__law_draw_p {K : PySem.W.Frag} : BindP K "_law_draw" "_law_draw" s__law_draw ["pool", "many"] := bindP fun _ _ _ _ _ _ us hl => match us, hl with | [_, _], _ => rfl
theorem sc__law_mixed : FnScope ["pool", "some", "left", "found", "lap", "k"] ["pool", "some"] (defScope s__law_mixed) := ⟨rfl, rfl, rfl, by decide +kernel, rfl, by decide +kernel, by decide +kernel⟩
theorem b__law_mixed_p {K : PySem.W.Frag} : BindP K "_law_mixed" "_law_mixed" s__law_mixed ["pool", "some"] := bindP fun _ _ _ _ _ _ us hl => match us, hl with | [_, _], _ => rfl
theorem sc__law_book : FnScope ["pool", "many", "way", "kept", "rows", "pairs", "one", "two", "near", "row", "k"] ["pool", "many"] (defScope s__law_book) := ⟨rfl, rfl, rfl, by decide +kernel, rfl, by decide +kernel, by decide +kernel⟩
theorem b__law_book_p {K : PySem.W.Frag} : BindP K "_law_book" "_law_book" s__law_book ["pool", "many"] := bindP fun _ _ _ _ _ _ us hl => match us, hl with | [_, _], _ => rfl
theorem sc__law_couples : FnScope ["book", "found", "one", "two"] ["book"] (defScope s__law_couples) := ⟨rfl, rfl, rfl, by decide +kernel, rfl, by decide +kernel, by decide +kernel⟩
theorem b__law_couples_p {K : PySem.W.Frag} : BindP K "_law_couples" "_law_couples" s__law_couples ["book"] := bindP fun _ _ _ _ _ _ us hl => match us, hl with | [_], _ => rfl
theorem sc__law_put : FnScope ["some", "at", "each"] ["some", "at", "each"] (defScope s__law_put) := ⟨rfl, rfl, rfl, by decide +kernel, rfl, by decide +kernel, by decide +kernel⟩
theorem b__law_put_p {K : PySem.W.Frag} : BindP K "_law_put" "_law_put" s__law_put ["some", "at", "each"] := bindP fun _ _ _ _ _ _ us hl => match us, hl with | [_, _, _], _ => rfl
theorem sc__law_bent_books : FnScope ["pool", "book", "at", "many", "row", "found", "odds", "odd"] ["pool", "book"] (defScope s__law_bent_books) := ⟨rfl, rfl, rfl, by decide +kernel, rfl, by decide +kernel, by decide +kernel⟩
theorem b__law_bent_books_p {K : PySem.W.Frag} : BindP K "_law_bent_books" "_law_bent_books" s__law_bent_books ["pool", "book"] := bindP fun _ _ _ _ _ _ us hl => match us, hl with | [_, _], _ => rfl
theorem sc__law_pick : FnScope ["pool", "some"] ["pool", "some"] (defScope s__law_pick) := ⟨rfl, rfl, rfl, by decide +kernel, rfl, by decide +kernel, by decide +kernel⟩
theorem b__law_pick_p {K : PySem.W.Frag} : BindP K "_law_pick" "_law_pick" s__law_pick ["pool", "some"] := bindP fun _ _ _ _ _ _ us hl => match us, hl with | [_, _], _ => rfl
theorem sc_is_whole : FnScope ["value"] ["value"] (defScope s_is_whole) := ⟨rfl, rfl, rfl, by decide +kernel, rfl, by decide +kernel, by decide +kernel⟩
theorem b_is_whole_p {K : PySem.W.Frag} : BindP K "is_whole" "is_whole" s_is_whole ["value"] := bindP fun _ _ _ _ _ _ us hl => match us, hl with | [_], _ => rfl
theorem sc_is_between : FnScope ["value", "low", "high"] ["value", "low", "high"] (defScope s_is_between) := ⟨rfl, rfl, rfl, by decide +kernel, rfl, by decide +kernel, by decide +kernel⟩
theorem b_is_between_p {K : PySem.W.Frag} : BindP K "is_between" "is_between" s_is_between ["value", "low", "high"] := bindP fun _ _ _ _ _ _ us hl => match us, hl with | [_, _, _], _ => rfl
theorem sc_is_person : FnScope ["many", "value"] ["many", "value"] (defScope s_is_person) := ⟨rfl, rfl, rfl, by decide +kernel, rfl, by decide +kernel, by decide +kernel⟩
theorem b_is_person_p {K : PySem.W.Frag} : BindP K "is_person" "is_person" s_is_person ["many", "value"] := bindP fun _ _ _ _ _ _ us hl => match us, hl with | [_, _], _ => rfl
theorem sc_is_row : FnScope ["many", "own", "value", "each", "place"] ["many", "own", "value"] (defScope s_is_row) := ⟨rfl, rfl, rfl, by decide +kernel, rfl, by decide +kernel, by decide +kernel⟩
theorem b_is_row_p {K : PySem.W.Frag} : BindP K "is_row" "is_row" s_is_row ["many", "own", "value"] := bindP fun _ _ _ _ _ _ us hl => match us, hl with | [_, _, _], _ => rfl
theorem sc_has_strangers : FnScope ["book", "own", "each"] ["book", "own"] (defScope s_has_strangers) := ⟨rfl, rfl, rfl, by decide +kernel, rfl, by decide +kernel, by decide +kernel⟩
theorem b_has_strangers_p {K : PySem.W.Frag} : BindP K "has_strangers" "has_strangers" s_has_strangers ["book", "own"] := bindP fun _ _ _ _ _ _ us hl => match us, hl with | [_, _], _ => rfl
theorem sc_wrong_in_book : FnScope ["value", "found", "own", "row"] ["value"] (defScope s_wrong_in_book) := ⟨rfl, rfl, rfl, by decide +kernel, rfl, by decide +kernel, by decide +kernel⟩
theorem b_wrong_in_book_p {K : PySem.W.Frag} : BindP K "wrong_in_book" "wrong_in_book" s_wrong_in_book ["value"] := bindP fun _ _ _ _ _ _ us hl => match us, hl with | [_], _ => rfl
theorem sc_is_book_by : FnScope ["value"] ["value"] (defScope s_is_book_by) := ⟨rfl, rfl, rfl, by decide +kernel, rfl, by decide +kernel, by decide +kernel⟩
theorem b_is_book_by_p {K : PySem.W.Frag} : BindP K "is_book_by" "is_book_by" s_is_book_by ["value"] := bindP fun _ _ _ _ _ _ us hl => match us, hl with | [_], _ => rfl
theorem sc_is_book : FnScope ["value"] ["value"] (defScope s_is_book) := ⟨rfl, rfl, rfl, by decide +kernel, rfl, by decide +kernel, by decide +kernel⟩
theorem b_is_book_p {K : PySem.W.Frag} : BindP K "is_book" "is_book" s_is_book ["value"] := bindP fun _ _ _ _ _ _ us hl => match us, hl with | [_], _ => rfl
theorem sc__law_tells : FnScope ["told", "due"] ["told", "due"] (defScope s__law_tells) := ⟨rfl, rfl, rfl, by decide +kernel, rfl, by decide +kernel, by decide +kernel⟩
theorem b__law_tells_p {K : PySem.W.Frag} : BindP K "_law_tells" "_law_tells" s__law_tells ["told", "due"] := bindP fun _ _ _ _ _ _ us hl => match us, hl with | [_, _], _ => rfl
theorem sc__law_is_whole : FnScope ["told"] ["told"] (defScope s__law_is_whole) := ⟨rfl, rfl, rfl, by decide +kernel, rfl, by decide +kernel, by decide +kernel⟩
theorem b__law_is_whole_p {K : PySem.W.Frag} : BindP K "_law_is_whole" "_law_is_whole" s__law_is_whole ["told"] := bindP fun _ _ _ _ _ _ us hl => match us, hl with | [_], _ => rfl
theorem sc__law_wrong_book : FnScope ["told", "one", "row", "two"] ["told"] (defScope s__law_wrong_book) := ⟨rfl, rfl, rfl, by decide +kernel, rfl, by decide +kernel, by decide +kernel⟩
theorem b__law_wrong_book_p {K : PySem.W.Frag} : BindP K "_law_wrong_book" "_law_wrong_book" s__law_wrong_book ["told"] := bindP fun _ _ _ _ _ _ us hl => match us, hl with | [_], _ => rfl
theorem sc__law_right : FnScope ["pool", "many", "book", "row", "value", "told", "couples", "one", "two", "bare", "each", "both", "known"] ["pool"] (defScope s__law_right) := ⟨rfl, rfl, rfl, by decide +kernel, rfl, by decide +kernel, by decide +kernel⟩
theorem b__law_right_p {K : PySem.W.Frag} : BindP K "_law_right" "_law_right" s__law_right ["pool"] := bindP fun _ _ _ _ _ _ us hl => match us, hl with | [_], _ => rfl
theorem sc__law_pool : FnScope ["script", "lap", "own", "stirred", "cell"] ["script", "lap"] (defScope s__law_pool) := ⟨rfl, rfl, rfl, by decide +kernel, rfl, by decide +kernel, by decide +kernel⟩
theorem b__law_pool_p {K : PySem.W.Frag} : BindP K "_law_pool" "_law_pool" s__law_pool ["script", "lap"] := bindP fun _ _ _ _ _ _ us hl => match us, hl with | [_, _], _ => rfl
theorem sc_law : FnScope ["script", "lap"] ["script"] (defScope s_law) := ⟨rfl, rfl, rfl, by decide +kernel, rfl, by decide +kernel, by decide +kernel⟩
theorem b_law_p {K : PySem.W.Frag} : BindP K "law" "law" s_law ["script"] := bindP fun _ _ _ _ _ _ us hl => match us, hl with | [_], _ => rfl
theorem bk_is_book_0_value {K : PySem.W.Frag} : BindK K "is_book" "is_book" s_is_book ["value"] ["value"] 0 1 [0] := bindK fun _ _ _ _ _ _ us ws hus hws => by
  obtain rfl := len_zero hus
  obtain ⟨b0, ws0, rfl, hw0⟩ := len_succ hws
  obtain rfl := len_zero hw0
  rfl
section
variable {P : Program} {wo : World} {K : PySem.W.Frag} {mg : Str → Option Value} {base : Heap}
theorem b__law_same {j : Nat} {sf : Fn} (z_isinstance : mg "isinstance" = none) (z_tuple : mg "tuple" = none) (z_len : mg "len" = none) (z_range : mg "range" = none) (z_bool : mg "bool" = none) (z_int : mg "int" = none) (z_str : mg "str" = none) (k_sf : Known P wo K mg base "_law_same" "_law_same" s__law_same (1 + j) ["one", "other"] sf) : ∀ (X : Cx), X.prog = P → X.w = wo → X.K = K → X.mg = mg → X.base = base → X.N = (["one", "other", "k"] : List Str) → X.env.scope = defScope s__law_same → X.fn = (fun _ => true) → XG X (1 + j) → FSs X (defBody s__law_same) (m__law_same sf) := by
  intro X e1 e2 e3 e4 e5 e6 e7 e8 xg
  rcases X with ⟨P, wo, K, mg, base, A, N, s0, H0, ⟨sc, lo, gl, ce, qu, fu, co, fr, bu⟩, ou, st, ex, fn, ca, pn, xe⟩
  simp only at e1 e2 e3 e4 e5 e6 e7 e8
  subst e1 e2 e3 e4 e5 e6 e7 e8
  have hc := xg.calm; have hN := xg.nd; have hr := xg.rm; have hpo := xg.po; have hgd := hr.g
  have u66 := hr.u66; have u65 := hr.u65; have u64 := hr.u64
  exact (fss_cons (fs_if (ft_val (FE.toB (fe_isi rfl z_isinstance rfl z_tuple boot_tuple (fb_var 0)))) (fss_one (fs_ret (fe_and (fe_isi rfl z_isinstance rfl z_tuple boot_tuple (fb_var 1)) (fe_and (fe_cmp (op_eqA u64) g_cEq (FE.toB (fe_callB call_len c_len rfl z_len boot_len (fas_cons (fb_var 0) fas_nil))) (FE.toB (fe_callB call_len c_len rfl z_len boot_len (fas_cons (fb_var 1) fas_nil))) (nomark _)) (fe_one (fe_cmp (op_eqA u64) g_cEq (FE.toB (FO.fe (fo_lc (own := [("k", 2)]) hc hN (fi_range1 rfl z_range (fe_callB call_len c_len rfl z_len boot_len (fas_cons (fb_var 0) fas_nil))) (blkOk_by (by dsimp only [Cx.blk, cE_scope]; decide +kernel)) (by decide) (fun _ _ _ _ _ => (fg_name 2 hN)) (fun _ _ _ _ _ => (fts_one (ft_not (ft_val (FE.toB (fe_call k_sf hr (by omega) rfl b__law_same_p (fa_cons (fe_ix (fb_var 0) (fe_var 2)) (fa_cons (fe_ix (fb_var 1) (fe_var 2)) fa_nil)))))))) (fun _ _ _ _ _ => (fe_var 2))))) (FE.toB (FO.fe (fo_lst fa_nil))) (nomark _))))))) fss_nil) (fss_cons (fs_if (FW.ft (fw_or (ft_val (FE.toB (fe_isi rfl z_isinstance rfl z_bool boot_bool (fb_var 0)))) (fw_or1 (ft_val (FE.toB (fe_isi rfl z_isinstance rfl z_bool boot_bool (fb_var 1))))))) (fss_one (fs_ret (fe_and (fe_isi rfl z_isinstance rfl z_bool boot_bool (fb_var 0)) (fe_and (fe_isi rfl z_isinstance rfl z_bool boot_bool (fb_var 1)) (fe_one (fe_cmp (op_eqA u64) g_cEq (fb_var 0) (fb_var 1) (nomark _))))))) fss_nil) (fss_one (fs_ret (fe_and (fe_cmp (op_eqA u64) g_cEq (FE.toB (fe_isi rfl z_isinstance rfl z_int boot_int (fb_var 0))) (FE.toB (fe_isi rfl z_isinstance rfl z_int boot_int (fb_var 1))) (nomark _)) (fe_and (fe_cmp (op_eqA u64) g_cEq (FE.toB (fe_isi rfl z_isinstance rfl z_str boot_str (fb_var 0))) (FE.toB (fe_isi rfl z_isinstance rfl z_str boot_str (fb_var 1))) (nomark _)) (fe_one (fe_cmp (op_eqA u64) g_cEq (fb_var 0) (fb_var 1) (nomark _)))))))))
theorem b__law_draw (z_divmod : mg "divmod" = none) (z_int : mg "int" = none) : ∀ (X : Cx), X.prog = P → X.w = wo → X.K = K → X.mg = mg → X.base = base → X.N = (["pool", "many", "figure", "held"] : List Str) → X.env.scope = defScope s__law_draw → X.fn = (fun _ => true) → XG X 0 → FSs X (defBody s__law_draw) m__law_draw := by
  intro X e1 e2 e3 e4 e5 e6 e7 e8 xg
  rcases X with ⟨P, wo, K, mg, base, A, N, s0, H0, ⟨sc, lo, gl, ce, qu, fu, co, fr, bu⟩, ou, st, ex, fn, ca, pn, xe⟩
  simp only at e1 e2 e3 e4 e5 e6 e7 e8
  subst e1 e2 e3 e4 e5 e6 e7 e8
  have hc := xg.calm; have hN := xg.nd; have hr := xg.rm; have hpo := xg.po; have hgd := hr.g
  have u66 := hr.u66; have u65 := hr.u65; have u64 := hr.u64
  exact (fss_cons (fs_if (ft_cmp op_gt g_cI (FE.toB (fe_ix (fb_pool 0) fe_int)) (FE.toB fe_int) (nomark _)) (fss_cons (fs_asgT (fet_dm rfl z_divmod (fe_ix (fb_pool 0) fe_int) (fe_var 1)) (fg_tup hc (fgs_cons (fg_pool 0) (fgs_cons (fg_name 2 hN) fgs_nil)) (hk := (aCons_len (aCons_len (fun _ _ _ _ h => aNil_len h)))))) (fss_one (fs_ret (fe_var 2)))) fss_nil) (fss_cons (fs_asg (fe_op op_addA g_addA (fe_ix (fb_pool 0) fe_int) fe_int) (fg_pool 0)) (fss_cons (fs_set 3 hN (fe_callTy call_int1 c_int rfl z_int boot_int (fas_cons (FE.toB (fe_ix (fb_pool 0) fe_int)) fas_nil))) (fss_cons (fs_asg (fe_op op_modN g_ar (fe_callTy call_int1 c_int rfl z_int boot_int (fas_cons (FE.toB (fe_op op_addA g_addA (fe_op op_addA g_addA (fe_op op_mul g_ar (fe_var 3) (fe_op op_addA g_addA (fe_op op_modN g_ar (fe_var 3) fe_int) fe_int)) (fe_op op_mul g_ar fe_int (fe_ix (fb_pool 0) fe_int))) fe_int)) fas_nil)) fe_int) (fg_pool 0)) (fss_one (fs_ret (fe_op op_modN g_ar (fe_callTy call_int1 c_int rfl z_int boot_int (fas_cons (FE.toB (fe_op op_fdivN g_ar (fe_ix (fb_pool 0) fe_int) fe_int)) fas_nil)) (fe_var 1))))))))
theorem b__law_mixed (z_list : mg "list" = none) (z_range : mg "range" = none) (z_len : mg "len" = none) (k__law_draw : Known P wo K mg base "_law_draw" "_law_draw" s__law_draw 1 ["pool", "many"] f__law_draw) : ∀ (X : Cx), X.prog = P → X.w = wo → X.K = K → X.mg = mg → X.base = base → X.N = (["pool", "some", "left", "found", "lap", "k"] : List Str) → X.env.scope = defScope s__law_mixed → X.fn = (fun _ => true) → XG X 1 → FSs X (defBody s__law_mixed) m__law_mixed := by
  intro X e1 e2 e3 e4 e5 e6 e7 e8 xg
  rcases X with ⟨P, wo, K, mg, base, A, N, s0, H0, ⟨sc, lo, gl, ce, qu, fu, co, fr, bu⟩, ou, st, ex, fn, ca, pn, xe⟩
  simp only at e1 e2 e3 e4 e5 e6 e7 e8
  subst e1 e2 e3 e4 e5 e6 e7 e8
  have hc := xg.calm; have hN := xg.nd; have hr := xg.rm; have hpo := xg.po; have hgd := hr.g
  have u66 := hr.u66; have u65 := hr.u65; have u64 := hr.u64
  exact (fss_cons (fs_par 2 3 hc hN (fm_v (FO.fe (fo_callTy call_list_of c_lstOf rfl z_list boot_list (fas_cons (fb_var 1) fas_nil))) (fm_o (fo_lst fa_nil) fm_nil))) (fss_cons (fs_for hpo hc (fi_range1 rfl z_range (fe_callB call_len c_len rfl z_len boot_len (fas_cons (fb_var 2) fas_nil))) (fg_name 4 hN) (fss_cons (fs_set 5 hN (fe_callP k__law_draw hr (by decide) rfl b__law_draw_p (fa_cons (fe_var 0) (fa_cons (fe_callB call_len c_len rfl z_len boot_len (fas_cons (fb_var 2) fas_nil)) fa_nil)))) (fss_cons (fs_append 3 (fe_ix (fb_var 2) (fe_var 5))) (fss_one (fs_set 2 hN (fe_op op_addA g_addA (fe_slice (fb_var 2) fp_none (fp_some (fe_var 5))) (fe_slice (fb_var 2) (fp_some (fe_op op_addA g_addA (fe_var 5) fe_int)) fp_none))))))) (fss_one (fs_ret (fe_var 3)))))
theorem b__law_book (k__law_draw : Known P wo K mg base "_law_draw" "_law_draw" s__law_draw 1 ["pool", "many"] f__law_draw) (z_range : mg "range" = none) (z_int : mg "int" = none) (z_max : mg "max" = none) (z_min : mg "min" = none) (k__law_mixed : Known P wo K mg base "_law_mixed" "_law_mixed" s__law_mixed 2 ["pool", "some"] f__law_mixed) (z_tuple : mg "tuple" = none) : ∀ (X : Cx), X.prog = P → X.w = wo → X.K = K → X.mg = mg → X.base = base → X.N = (["pool", "many", "way", "kept", "rows", "pairs", "one", "two", "near", "row", "k"] : List Str) → X.env.scope = defScope s__law_book → X.fn = (fun _ => true) → XG X 2 → FSs X (defBody s__law_book) m__law_book := by
  intro X e1 e2 e3 e4 e5 e6 e7 e8 xg
  rcases X with ⟨P, wo, K, mg, base, A, N, s0, H0, ⟨sc, lo, gl, ce, qu, fu, co, fr, bu⟩, ou, st, ex, fn, ca, pn, xe⟩
  simp only at e1 e2 e3 e4 e5 e6 e7 e8
  subst e1 e2 e3 e4 e5 e6 e7 e8
  have hc := xg.calm; have hN := xg.nd; have hr := xg.rm; have hpo := xg.po; have hgd := hr.g
  have u66 := hr.u66; have u65 := hr.u65; have u64 := hr.u64
  exact (fss_cons (fs_par3 2 3 4 hc hN (fm_v (fe_callP k__law_draw hr (by decide) rfl b__law_draw_p (fa_cons (fe_var 0) (fa_cons fe_int fa_nil))) (fm_v (fe_op op_addA g_addA fe_int (fe_callP k__law_draw hr (by decide) rfl b__law_draw_p (fa_cons (fe_var 0) (fa_cons fe_int fa_nil)))) (fm_o (fo_lst fa_nil) fm_nil)))) (fss_cons (fs_setO 5 hN (fo_lst fa_nil)) (fss_cons (fs_for hpo hc (fi_range1 rfl z_range (fe_var 1)) (fg_name 6 hN) (fss_one (fs_for hpo hc (fi_range2 rfl z_range (fe_op op_addA g_addA (fe_var 6) fe_int) (fe_var 1)) (fg_name 7 hN) (fss_one (fs_if (FW.ft (fw_or (ft_cmp (op_inA u65) g_cIn (fb_var 2) (FE.toB (fe_tup (fa_cons fe_int (fa_cons fe_int fa_nil)))) (by with_unfolding_all rfl)) (fw_or (FW.ft (fw_and (ft_cmp (op_eqA u64) g_cEq (fb_var 2) (FE.toB fe_int) (nomark _)) (fw_and1 (ft_cmp op_lt g_cI (FE.toB (fe_callP k__law_draw hr (by decide) rfl b__law_draw_p (fa_cons (fe_var 0) (fa_cons fe_int fa_nil)))) (fb_var 3) (nomark _))))) (fw_or (FW.ft (fw_and (ft_cmp (op_eqA u64) g_cEq (fb_var 2) (FE.toB fe_int) (nomark _)) (fw_and (ft_cmp (op_eqA u64) g_cEq (FE.toB (fe_op op_modN g_ar (fe_callTy call_int1 c_int rfl z_int boot_int (fas_cons (FE.toB (fe_op op_addA g_addA (fe_var 6) (fe_var 7))) fas_nil)) fe_int)) (FE.toB fe_int) (nomark _)) (fw_and1 (ft_cmp op_lt g_cI (FE.toB (fe_callP k__law_draw hr (by decide) rfl b__law_draw_p (fa_cons (fe_var 0) (fa_cons fe_int fa_nil)))) (FE.toB fe_int) (nomark _)))))) (fw_or1 (FW.ft (fw_and (ft_cmp (op_eqA u64) g_cEq (fb_var 2) (FE.toB fe_int) (nomark _)) (fw_and1 (ft_cmp op_gt g_cI (FE.toB (fe_callP k__law_draw hr (by decide) rfl b__law_draw_p (fa_cons (fe_var 0) (fa_cons fe_int fa_nil)))) (FE.toB fe_int) (nomark _)))))))))) (fss_one (fs_append 5 (fe_tup (fa_cons (fe_var 6) (fa_cons (fe_var 7) fa_nil))))) fss_nil))))) (fss_cons (fs_for hpo hc (fi_range1 rfl z_range (fe_var 1)) (fg_name 6 hN) (fss_cons (fs_setLc (own := [("two", 7)]) 8 hc hN (fi_range1 rfl z_range (fe_var 1)) (blkOk_by (by dsimp only [Cx.blk, cE_scope]; decide +kernel)) (by decide) (fun _ _ _ _ _ => (fg_name 7 hN)) (fun _ _ _ _ _ => (fts_one (ft_cmp (op_inA u65) g_cIn (FE.toB (fe_tup (fa_cons (fe_callB (call_min2 hc) c_min2 rfl z_min boot_min (fas_cons (fb_var 6) (fas_cons (fb_var 7) fas_nil))) (fa_cons (fe_callB (call_max2 hc) c_max2 rfl z_max boot_max (fas_cons (fb_var 6) (fas_cons (fb_var 7) fas_nil))) fa_nil)))) (fb_var 5) (by with_unfolding_all rfl)))) (fun _ _ _ _ _ => (fe_var 7))) (fss_cons (fs_set 9 hN (fe_callP k__law_mixed hr (by decide) rfl b__law_mixed_p (fa_cons (fe_var 0) (fa_cons (fe_var 8) fa_nil)))) (fss_cons (fs_if (FW.ft (fw_and (ft_cmp (op_eqA u64) g_cEq (fb_var 2) (FE.toB fe_int) (nomark _)) (fw_and1 (ft_cmp op_gt g_cI (FE.toB (fe_callP k__law_draw hr (by decide) rfl b__law_draw_p (fa_cons (fe_var 0) (fa_cons fe_int fa_nil)))) (FE.toB fe_int) (nomark _))))) (fss_one (fs_setLc (own := [("k", 10)]) 9 hc hN (fi_range2 rfl z_range fe_int (fe_var 1)) (blkOk_by (by dsimp only [Cx.blk, cE_scope]; decide +kernel)) (by decide) (fun _ _ _ _ _ => (fg_name 10 hN)) (fun _ _ _ _ _ => fts_nil) (fun _ _ _ _ _ => (fe_op op_modN g_ar (fe_callTy call_int1 c_int rfl z_int boot_int (fas_cons (FE.toB (fe_op op_addA g_addA (fe_var 6) (fe_var 10))) fas_nil)) (fe_var 1))))) fss_nil) (fss_one (fs_append 4 (fe_callTy cr_tupOf c_tupOf rfl z_tuple boot_tuple (fas_cons (fb_var 9) fas_nil)))))))) (fss_one (fs_ret (fe_callTy cr_tupOf c_tupOf rfl z_tuple boot_tuple (fas_cons (fb_var 4) fas_nil))))))))
theorem b__law_couples (z_range : mg "range" = none) (z_len : mg "len" = none) : ∀ (X : Cx), X.prog = P → X.w = wo → X.K = K → X.mg = mg → X.base = base → X.N = (["book", "found", "one", "two"] : List Str) → X.env.scope = defScope s__law_couples → X.fn = (fun _ => true) → XG X 0 → FSs X (defBody s__law_couples) m__law_couples := by
  intro X e1 e2 e3 e4 e5 e6 e7 e8 xg
  rcases X with ⟨P, wo, K, mg, base, A, N, s0, H0, ⟨sc, lo, gl, ce, qu, fu, co, fr, bu⟩, ou, st, ex, fn, ca, pn, xe⟩
  simp only at e1 e2 e3 e4 e5 e6 e7 e8
  subst e1 e2 e3 e4 e5 e6 e7 e8
  have hc := xg.calm; have hN := xg.nd; have hr := xg.rm; have hpo := xg.po; have hgd := hr.g
  have u66 := hr.u66; have u65 := hr.u65; have u64 := hr.u64
  exact (fss_cons (fs_set 1 hN (FO.fe (fo_lst fa_nil))) (fss_cons (fs_for hpo hc (fi_range1 rfl z_range (fe_callB call_len c_len rfl z_len boot_len (fas_cons (fb_var 0) fas_nil))) (fg_name 2 hN) (fss_one (fs_set 1 hN (fe_op op_addA g_addA (fe_var 1) (FO.fe (fo_lc (own := [("two", 3)]) hc hN (fi_range2 rfl z_range (fe_op op_addA g_addA (fe_var 2) fe_int) (fe_callB call_len c_len rfl z_len boot_len (fas_cons (fb_var 0) fas_nil))) (blkOk_by (by dsimp only [Cx.blk, cE_scope]; decide +kernel)) (by decide) (fun _ _ _ _ _ => (fg_name 3 hN)) (fun _ _ _ _ _ => (fts_one (ft_cmp (op_inA u65) g_cIn (fb_var 3) (FE.toB (fe_ix (fb_var 0) (fe_var 2))) (by with_unfolding_all rfl)))) (fun _ _ _ _ _ => (fe_tup (fa_cons (fe_var 2) (fa_cons (fe_var 3) fa_nil)))))))))) (fss_one (fs_ret (fe_var 1)))))
theorem b__law_put  : ∀ (X : Cx), X.prog = P → X.w = wo → X.K = K → X.mg = mg → X.base = base → X.N = (["some", "at", "each"] : List Str) → X.env.scope = defScope s__law_put → X.fn = (fun _ => true) → XG X 0 → FSs X (defBody s__law_put) m__law_put := by
  intro X e1 e2 e3 e4 e5 e6 e7 e8 xg
  rcases X with ⟨P, wo, K, mg, base, A, N, s0, H0, ⟨sc, lo, gl, ce, qu, fu, co, fr, bu⟩, ou, st, ex, fn, ca, pn, xe⟩
  simp only at e1 e2 e3 e4 e5 e6 e7 e8
  subst e1 e2 e3 e4 e5 e6 e7 e8
  have hc := xg.calm; have hN := xg.nd; have hr := xg.rm; have hpo := xg.po; have hgd := hr.g
  have u66 := hr.u66; have u65 := hr.u65; have u64 := hr.u64
  exact (fss_one (fs_ret (fe_op op_addA g_addA (fe_op op_addA g_addA (fe_slice (fb_var 0) fp_none (fp_some (fe_var 1))) (fe_tup (fa_cons (fe_var 2) fa_nil))) (fe_slice (fb_var 0) (fp_some (fe_op op_addA g_addA (fe_var 1) fe_int)) fp_none))))
theorem b__law_bent_books (z_len : mg "len" = none) (k__law_draw : Known P wo K mg base "_law_draw" "_law_draw" s__law_draw 1 ["pool", "many"] f__law_draw) (z_list : mg "list" = none) (z_tuple : mg "tuple" = none) (z_range : mg "range" = none) (k__law_put : Known P wo K mg base "_law_put" "_law_put" s__law_put 1 ["some", "at", "each"] f__law_put) : ∀ (X : Cx), X.prog = P → X.w = wo → X.K = K → X.mg = mg → X.base = base → X.N = (["pool", "book", "at", "many", "row", "found", "odds", "odd"] : List Str) → X.env.scope = defScope s__law_bent_books → X.fn = (fun _ => true) → XG X 1 → FSs X (defBody s__law_bent_books) m__law_bent_books := by
  intro X e1 e2 e3 e4 e5 e6 e7 e8 xg
  rcases X with ⟨P, wo, K, mg, base, A, N, s0, H0, ⟨sc, lo, gl, ce, qu, fu, co, fr, bu⟩, ou, st, ex, fn, ca, pn, xe⟩
  simp only at e1 e2 e3 e4 e5 e6 e7 e8
  subst e1 e2 e3 e4 e5 e6 e7 e8
  have hc := xg.calm; have hN := xg.nd; have hr := xg.rm; have hpo := xg.po; have hgd := hr.g
  have u66 := hr.u66; have u65 := hr.u65; have u64 := hr.u64
  exact (fss_cons (fs_asg (fe_tup (fa_cons (fe_callP k__law_draw hr (by decide) rfl b__law_draw_p (fa_cons (fe_var 0) (fa_cons (fe_callB call_len c_len rfl z_len boot_len (fas_cons (fb_var 1) fas_nil)) fa_nil))) (fa_cons (fe_callB call_len c_len rfl z_len boot_len (fas_cons (fb_var 1) fas_nil)) fa_nil))) (fg_tup hc (fgs_cons (fg_name 2 hN) (fgs_cons (fg_name 3 hN) fgs_nil)) (hk := (aCons_len (aCons_len (fun _ _ _ _ h => aNil_len h)))))) (fss_cons (fs_set 4 hN (fe_ix (fb_var 1) (fe_var 2))) (fss_cons (fs_set 5 hN (FO.fe (fo_lst (fa_cons (fe_var 1) (fa_cons (FO.fe (fo_callTy call_list_of c_lstOf rfl z_list boot_list (fas_cons (fb_var 1) fas_nil))) (fa_cons (fe_tup fa_nil) (fa_cons fe_non (fa_cons fe_int (fa_cons fe_dic0 (fa_cons fe_str (fa_cons (fe_tup (fa_cons (fe_var 1) fa_nil)) (fa_cons (fe_var 4) (fa_cons (fe_op op_addA g_addA (fe_var 1) (fe_tup (fa_cons (fe_tup fa_nil) fa_nil))) (fa_cons (fe_slice (fb_var 1) (fp_some fe_int) fp_none) (fa_cons (fe_slice (fb_var 1) fp_none (fp_some (fe_un un_neg g_neg fe_int))) (fa_cons (fe_op (OpR.or op_mul op_repZ) g_mulT (fe_tup (fa_cons (fe_tup fa_nil) fa_nil)) fe_int) (fa_cons (fe_slice (FE.toB (fe_op (OpR.or op_mul op_repZ) g_mulT (fe_var 1) fe_int)) fp_none (fp_some fe_int)) (fa_cons (fe_rev (fb_var 1)) fa_nil)))))))))))))))))) (fss_cons (fs_set 6 hN (FO.fe (fo_lst (fa_cons fe_non (fa_cons (FO.fe (fo_callTy call_list_of c_lstOf rfl z_list boot_list (fas_cons (fb_var 4) fas_nil))) (fa_cons (fe_op op_addA g_addA (fe_var 4) (fe_tup (fa_cons (fe_var 2) fa_nil))) (fa_cons (fe_op op_addA g_addA (fe_var 4) (fe_tup (fa_cons (fe_var 3) fa_nil))) (fa_cons (fe_op op_addA g_addA (fe_var 4) (fe_tup (fa_cons (fe_un un_neg g_neg fe_int) fa_nil))) (fa_cons (fe_op op_addA g_addA (fe_var 4) (fe_tup (fa_cons fe_non fa_nil))) (fa_cons (fe_op op_addA g_addA (fe_var 4) (fe_tup (fa_cons fe_bl fa_nil))) (fa_cons (fe_op op_addA g_addA (fe_var 4) (fe_tup (fa_cons fe_str fa_nil))) (fa_cons (fe_op op_addA g_addA (fe_var 4) (fe_slice (fb_var 4) fp_none (fp_some fe_int))) (fa_cons (fe_slice (fb_var 4) (fp_some fe_int) fp_none) (fa_cons (fe_slice (fb_var 4) fp_none (fp_some (fe_un un_neg g_neg fe_int))) fa_nil)))))))))))))) (fss_cons (fs_set 6 hN (fe_op op_addA g_addA (fe_var 6) (FO.fe (fo_lst (fa_cons (fe_rev (fb_var 4)) (fa_cons (fe_tup fa_nil) (fa_cons fe_int (fa_cons (fe_tup (fa_cons (fe_var 4) fa_nil)) (fa_cons (fe_tr1 hc rfl z_tuple rfl z_range (fe_var 3)) (fa_cons (fe_op op_addA g_addA (fe_var 4) (fe_tup (fa_cons (fe_callP k__law_draw hr (by decide) rfl b__law_draw_p (fa_cons (fe_var 0) (fa_cons (fe_var 3) fa_nil))) fa_nil))) fa_nil)))))))))) (fss_one (fs_ret (fe_op op_addA g_addA (fe_var 5) (FO.fe (fo_lc (own := [("odd", 7)]) hc hN (fi_seq (fe_var 6)) (blkOk_by (by dsimp only [Cx.blk, cE_scope]; decide +kernel)) (by decide) (fun _ _ _ _ _ => (fg_name 7 hN)) (fun _ _ _ _ _ => fts_nil) (fun _ _ _ _ _ => (fe_call k__law_put hr (by decide) rfl b__law_put_p (fa_cons (fe_var 1) (fa_cons (fe_var 2) (fa_cons (fe_var 7) fa_nil)))))))))))))))
theorem b__law_pick (k__law_draw : Known P wo K mg base "_law_draw" "_law_draw" s__law_draw 1 ["pool", "many"] f__law_draw) (z_len : mg "len" = none) : ∀ (X : Cx), X.prog = P → X.w = wo → X.K = K → X.mg = mg → X.base = base → X.N = (["pool", "some"] : List Str) → X.env.scope = defScope s__law_pick → X.fn = (fun _ => true) → XG X 1 → FSs X (defBody s__law_pick) m__law_pick := by
  intro X e1 e2 e3 e4 e5 e6 e7 e8 xg
  rcases X with ⟨P, wo, K, mg, base, A, N, s0, H0, ⟨sc, lo, gl, ce, qu, fu, co, fr, bu⟩, ou, st, ex, fn, ca, pn, xe⟩
  simp only at e1 e2 e3 e4 e5 e6 e7 e8
  subst e1 e2 e3 e4 e5 e6 e7 e8
  have hc := xg.calm; have hN := xg.nd; have hr := xg.rm; have hpo := xg.po; have hgd := hr.g
  have u66 := hr.u66; have u65 := hr.u65; have u64 := hr.u64
  exact (fss_one (fs_ret (fe_ix (fb_var 1) (fe_callP k__law_draw hr (by decide) rfl b__law_draw_p (fa_cons (fe_var 0) (fa_cons (fe_callB call_len c_len rfl z_len boot_len (fas_cons (fb_var 1) fas_nil)) fa_nil))))))
theorem b_is_whole (z_isinstance : mg "isinstance" = none) (z_int : mg "int" = none) (z_bool : mg "bool" = none) : ∀ (X : Cx), X.prog = P → X.w = wo → X.K = K → X.mg = mg → X.base = base → X.N = (["value"] : List Str) → X.env.scope = defScope s_is_whole → X.fn = (fun _ => true) → XG X 0 → FSs X (defBody s_is_whole) m_is_whole := by
  intro X e1 e2 e3 e4 e5 e6 e7 e8 xg
  rcases X with ⟨P, wo, K, mg, base, A, N, s0, H0, ⟨sc, lo, gl, ce, qu, fu, co, fr, bu⟩, ou, st, ex, fn, ca, pn, xe⟩
  simp only at e1 e2 e3 e4 e5 e6 e7 e8
  subst e1 e2 e3 e4 e5 e6 e7 e8
  have hc := xg.calm; have hN := xg.nd; have hr := xg.rm; have hpo := xg.po; have hgd := hr.g
  have u66 := hr.u66; have u65 := hr.u65; have u64 := hr.u64
  exact (fss_one (fs_ret (fe_and (fe_isi rfl z_isinstance rfl z_int boot_int (fb_var 0)) (fe_one (fe_not (FE.toB (fe_isi rfl z_isinstance rfl z_bool boot_bool (fb_var 0))))))))
theorem b_is_between (k_is_whole : Known P wo K mg base "is_whole" "is_whole" s_is_whole 1 ["value"] f_is_whole) : ∀ (X : Cx), X.prog = P → X.w = wo → X.K = K → X.mg = mg → X.base = base → X.N = (["value", "low", "high"] : List Str) → X.env.scope = defScope s_is_between → X.fn = (fun _ => true) → XG X 1 → FSs X (defBody s_is_between) m_is_between := by
  intro X e1 e2 e3 e4 e5 e6 e7 e8 xg
  rcases X with ⟨P, wo, K, mg, base, A, N, s0, H0, ⟨sc, lo, gl, ce, qu, fu, co, fr, bu⟩, ou, st, ex, fn, ca, pn, xe⟩
  simp only at e1 e2 e3 e4 e5 e6 e7 e8
  subst e1 e2 e3 e4 e5 e6 e7 e8
  have hc := xg.calm; have hN := xg.nd; have hr := xg.rm; have hpo := xg.po; have hgd := hr.g
  have u66 := hr.u66; have u65 := hr.u65; have u64 := hr.u64
  exact (fss_one (fs_ret (fe_and (fe_call k_is_whole hr (by decide) rfl b_is_whole_p (fa_cons (fe_var 0) fa_nil)) (fe_one (fe_chain op_le g_cI op_le g_cI (fe_var 1) (fe_var 0) (fe_var 2))))))
theorem b_is_person (k_is_between : Known P wo K mg base "is_between" "is_between" s_is_between 2 ["value", "low", "high"] f_is_between) : ∀ (X : Cx), X.prog = P → X.w = wo → X.K = K → X.mg = mg → X.base = base → X.N = (["many", "value"] : List Str) → X.env.scope = defScope s_is_person → X.fn = (fun _ => true) → XG X 2 → FSs X (defBody s_is_person) m_is_person := by
  intro X e1 e2 e3 e4 e5 e6 e7 e8 xg
  rcases X with ⟨P, wo, K, mg, base, A, N, s0, H0, ⟨sc, lo, gl, ce, qu, fu, co, fr, bu⟩, ou, st, ex, fn, ca, pn, xe⟩
  simp only at e1 e2 e3 e4 e5 e6 e7 e8
  subst e1 e2 e3 e4 e5 e6 e7 e8
  have hc := xg.calm; have hN := xg.nd; have hr := xg.rm; have hpo := xg.po; have hgd := hr.g
  have u66 := hr.u66; have u65 := hr.u65; have u64 := hr.u64
  exact (fss_one (fs_ret (fe_call k_is_between hr (by decide) rfl b_is_between_p (fa_cons (fe_var 1) (fa_cons fe_int (fa_cons (fe_op op_sub g_ar0 (fe_var 0) fe_int) fa_nil))))))
theorem b_is_row (z_isinstance : mg "isinstance" = none) (z_tuple : mg "tuple" = none) (z_all : mg "all" = none) (k_is_person : Known P wo K mg base "is_person" "is_person" s_is_person 3 ["many", "value"] f_is_person) (z_enumerate : mg "enumerate" = none) : ∀ (X : Cx), X.prog = P → X.w = wo → X.K = K → X.mg = mg → X.base = base → X.N = (["many", "own", "value", "each", "place"] : List Str) → X.env.scope = defScope s_is_row → X.fn = (fun _ => true) → XG X 3 → FSs X (defBody s_is_row) m_is_row := by
  intro X e1 e2 e3 e4 e5 e6 e7 e8 xg
  rcases X with ⟨P, wo, K, mg, base, A, N, s0, H0, ⟨sc, lo, gl, ce, qu, fu, co, fr, bu⟩, ou, st, ex, fn, ca, pn, xe⟩
  simp only at e1 e2 e3 e4 e5 e6 e7 e8
  subst e1 e2 e3 e4 e5 e6 e7 e8
  have hc := xg.calm; have hN := xg.nd; have hr := xg.rm; have hpo := xg.po; have hgd := hr.g
  have u66 := hr.u66; have u65 := hr.u65; have u64 := hr.u64
  exact (fss_cons (fs_if (FW.ft (fw_or (ft_not (ft_val (FE.toB (fe_isi rfl z_isinstance rfl z_tuple boot_tuple (fb_var 2))))) (fw_or1 (ft_not (ft_val (FE.toB (fe_callB (cr_allA hc) c_any rfl z_all boot_all (fas_cons (FE.toB (FO.fe (fo_lc (own := [("each", 3)]) hc hN (fi_seq (fe_var 2)) (blkOk_by (by dsimp only [Cx.blk, cE_scope]; decide +kernel)) (by decide) (fun _ _ _ _ _ => (fg_name 3 hN)) (fun _ _ _ _ _ => fts_nil) (fun _ _ _ _ _ => (fe_and (fe_call k_is_person hr (by decide) rfl b_is_person_p (fa_cons (fe_var 0) (fa_cons (fe_var 3) fa_nil))) (fe_one (fe_cmp (op_neA u64) g_cNe (fb_var 3) (fb_var 1) (nomark _)))))))) fas_nil)))))))) (fss_one (fs_ret fe_bl)) fss_nil) (fss_one (fs_ret (fe_callB (cr_allA hc) c_any rfl z_all boot_all (fas_cons (FE.toB (FO.fe (fo_lc (own := [("each", 3), ("place", 4)]) hc hN (fi_enum rfl z_enumerate (fe_var 2)) (blkOk_by (by dsimp only [Cx.blk, cE_scope]; decide +kernel)) (by decide) (fun _ _ _ _ _ => (fg_tup hc (fgs_cons (fg_name 4 hN) (fgs_cons (fg_name 3 hN) fgs_nil)) (hk := (aCons_len (aCons_len (fun _ _ _ _ h => aNil_len h)))))) (fun _ _ _ _ _ => fts_nil) (fun _ _ _ _ _ => (fe_cmp (op_notInA u65) g_cIn (fb_var 3) (FE.toB (fe_slice (fb_var 2) fp_none (fp_some (fe_var 4)))) (by with_unfolding_all rfl)))))) fas_nil)))))
theorem b_has_strangers (z_any : mg "any" = none) : ∀ (X : Cx), X.prog = P → X.w = wo → X.K = K → X.mg = mg → X.base = base → X.N = (["book", "own", "each"] : List Str) → X.env.scope = defScope s_has_strangers → X.fn = (fun _ => true) → XG X 0 → FSs X (defBody s_has_strangers) m_has_strangers := by
  intro X e1 e2 e3 e4 e5 e6 e7 e8 xg
  rcases X with ⟨P, wo, K, mg, base, A, N, s0, H0, ⟨sc, lo, gl, ce, qu, fu, co, fr, bu⟩, ou, st, ex, fn, ca, pn, xe⟩
  simp only at e1 e2 e3 e4 e5 e6 e7 e8
  subst e1 e2 e3 e4 e5 e6 e7 e8
  have hc := xg.calm; have hN := xg.nd; have hr := xg.rm; have hpo := xg.po; have hgd := hr.g
  have u66 := hr.u66; have u65 := hr.u65; have u64 := hr.u64
  exact (fss_one (fs_ret (fe_callB (cr_anyA hc) c_any rfl z_any boot_any (fas_cons (FE.toB (FO.fe (fo_lc (own := [("each", 2)]) hc hN (fi_seq (fe_ix (fb_var 0) (fe_var 1))) (blkOk_by (by dsimp only [Cx.blk, cE_scope]; decide +kernel)) (by decide) (fun _ _ _ _ _ => (fg_name 2 hN)) (fun _ _ _ _ _ => fts_nil) (fun _ _ _ _ _ => (fe_cmp (op_notInA u65) g_cIn (fb_var 1) (FE.toB (fe_ix (fb_var 0) (fe_var 2))) (by with_unfolding_all rfl)))))) fas_nil))))
theorem b_wrong_in_book (z_isinstance : mg "isinstance" = none) (z_tuple : mg "tuple" = none) (z_len : mg "len" = none) (i_MOST_PERSONS : ∃ t, mg "MOST_PERSONS" = some (.int 7 t)) (z_enumerate : mg "enumerate" = none) (k_is_row : Known P wo K mg base "is_row" "is_row" s_is_row 4 ["many", "own", "value"] f_is_row) (z_range : mg "range" = none) (k_has_strangers : Known P wo K mg base "has_strangers" "has_strangers" s_has_strangers 1 ["book", "own"] f_has_strangers) : ∀ (X : Cx), X.prog = P → X.w = wo → X.K = K → X.mg = mg → X.base = base → X.N = (["value", "found", "own", "row"] : List Str) → X.env.scope = defScope s_wrong_in_book → X.fn = (fun _ => true) → XG X 4 → FSs X (defBody s_wrong_in_book) m_wrong_in_book := by
  intro X e1 e2 e3 e4 e5 e6 e7 e8 xg
  rcases X with ⟨P, wo, K, mg, base, A, N, s0, H0, ⟨sc, lo, gl, ce, qu, fu, co, fr, bu⟩, ou, st, ex, fn, ca, pn, xe⟩
  simp only at e1 e2 e3 e4 e5 e6 e7 e8
  subst e1 e2 e3 e4 e5 e6 e7 e8
  have hc := xg.calm; have hN := xg.nd; have hr := xg.rm; have hpo := xg.po; have hgd := hr.g
  have u66 := hr.u66; have u65 := hr.u65; have u64 := hr.u64
  obtain ⟨t_MOST_PERSONS, i_MOST_PERSONS⟩ := i_MOST_PERSONS
  exact (fss_cons (fs_if (FW.ft (fw_or (ft_not (ft_val (FE.toB (fe_isi rfl z_isinstance rfl z_tuple boot_tuple (fb_var 0))))) (fw_or1 (ft_not (ft_chain op_le g_cI op_le g_cI fe_int (fe_callB call_len c_len rfl z_len boot_len (fas_cons (fb_var 0) fas_nil)) (fe_glob rfl i_MOST_PERSONS)))))) (fss_one (fs_ret (FO.fe (fo_lst (fa_cons fe_non fa_nil))))) fss_nil) (fss_cons (fs_setLc (own := [("own", 2), ("row", 3)]) 1 hc hN (fi_enum rfl z_enumerate (fe_var 0)) (blkOk_by (by dsimp only [Cx.blk, cE_scope]; decide +kernel)) (by decide) (fun _ _ _ _ _ => (fg_tup hc (fgs_cons (fg_name 2 hN) (fgs_cons (fg_name 3 hN) fgs_nil)) (hk := (aCons_len (aCons_len (fun _ _ _ _ h => aNil_len h)))))) (fun _ _ _ _ _ => (fts_one (ft_not (ft_val (FE.toB (fe_call k_is_row hr (by decide) rfl b_is_row_p (fa_cons (fe_callB call_len c_len rfl z_len boot_len (fas_cons (fb_var 0) fas_nil)) (fa_cons (fe_var 2) (fa_cons (fe_var 3) fa_nil))))))))) (fun _ _ _ _ _ => (fe_var 2))) (fss_cons (fs_if (ft_cmp (op_neA u64) g_cNe (fb_var 1) (FE.toB (FO.fe (fo_lst fa_nil))) (nomark _)) (fss_one (fs_ret (fe_slice (fb_var 1) fp_none (fp_some fe_int)))) fss_nil) (fss_one (fs_ret (fe_slice (FE.toB (FO.fe (fo_lc (own := [("own", 2)]) hc hN (fi_range1 rfl z_range (fe_callB call_len c_len rfl z_len boot_len (fas_cons (fb_var 0) fas_nil))) (blkOk_by (by dsimp only [Cx.blk, cE_scope]; decide +kernel)) (by decide) (fun _ _ _ _ _ => (fg_name 2 hN)) (fun _ _ _ _ _ => (fts_one (ft_val (FE.toB (fe_call k_has_strangers hr (by decide) rfl b_has_strangers_p (fa_cons (fe_var 0) (fa_cons (fe_var 2) fa_nil))))))) (fun _ _ _ _ _ => (fe_var 2))))) fp_none (fp_some fe_int)))))))
theorem b_is_book_by (k_wrong_in_book : Known P wo K mg base "wrong_in_book" "wrong_in_book" s_wrong_in_book 5 ["value"] f_wrong_in_book) : ∀ (X : Cx), X.prog = P → X.w = wo → X.K = K → X.mg = mg → X.base = base → X.N = (["value"] : List Str) → X.env.scope = defScope s_is_book_by → X.fn = (fun _ => true) → XG X 5 → FSs X (defBody s_is_book_by) m_is_book_by := by
  intro X e1 e2 e3 e4 e5 e6 e7 e8 xg
  rcases X with ⟨P, wo, K, mg, base, A, N, s0, H0, ⟨sc, lo, gl, ce, qu, fu, co, fr, bu⟩, ou, st, ex, fn, ca, pn, xe⟩
  simp only at e1 e2 e3 e4 e5 e6 e7 e8
  subst e1 e2 e3 e4 e5 e6 e7 e8
  have hc := xg.calm; have hN := xg.nd; have hr := xg.rm; have hpo := xg.po; have hgd := hr.g
  have u66 := hr.u66; have u65 := hr.u65; have u64 := hr.u64
  exact (fss_one (fs_ret (fe_cmp (op_eqA u64) g_cEq (FE.toB (fe_call k_wrong_in_book hr (by decide) rfl b_wrong_in_book_p (fa_cons (fe_var 0) fa_nil))) (FE.toB (FO.fe (fo_lst fa_nil))) (nomark _))))
theorem b_is_book (k_is_book_by : Known P wo K mg base "is_book_by" "is_book_by" s_is_book_by 6 ["value"] f_is_book_by) : ∀ (X : Cx), X.prog = P → X.w = wo → X.K = K → X.mg = mg → X.base = base → X.N = (["value"] : List Str) → X.env.scope = defScope s_is_book → X.fn = (fun _ => true) → XG X 6 → FSs X (defBody s_is_book) m_is_book := by
  intro X e1 e2 e3 e4 e5 e6 e7 e8 xg
  rcases X with ⟨P, wo, K, mg, base, A, N, s0, H0, ⟨sc, lo, gl, ce, qu, fu, co, fr, bu⟩, ou, st, ex, fn, ca, pn, xe⟩
  simp only at e1 e2 e3 e4 e5 e6 e7 e8
  subst e1 e2 e3 e4 e5 e6 e7 e8
  have hc := xg.calm; have hN := xg.nd; have hr := xg.rm; have hpo := xg.po; have hgd := hr.g
  have u66 := hr.u66; have u65 := hr.u65; have u64 := hr.u64
  exact (fss_one (fs_ret (fe_call k_is_book_by hr (by decide) rfl b_is_book_by_p (fa_cons (fe_var 0) fa_nil))))
theorem b__law_tells  : ∀ (X : Cx), X.prog = P → X.w = wo → X.K = K → X.mg = mg → X.base = base → X.N = (["told", "due"] : List Str) → X.env.scope = defScope s__law_tells → X.fn = (fun _ => true) → XG X 0 → FSs X (defBody s__law_tells) m__law_tells := by
  intro X e1 e2 e3 e4 e5 e6 e7 e8 xg
  rcases X with ⟨P, wo, K, mg, base, A, N, s0, H0, ⟨sc, lo, gl, ce, qu, fu, co, fr, bu⟩, ou, st, ex, fn, ca, pn, xe⟩
  simp only at e1 e2 e3 e4 e5 e6 e7 e8
  subst e1 e2 e3 e4 e5 e6 e7 e8
  have hc := xg.calm; have hN := xg.nd; have hr := xg.rm; have hpo := xg.po; have hgd := hr.g
  have u66 := hr.u66; have u65 := hr.u65; have u64 := hr.u64
  exact (fss_one (fs_ret (fe_if (ft_val (fb_var 1)) (fe_cmp op_isA g_cIs (fb_var 0) (FE.toB fe_bl) (nomark _)) (fe_cmp op_isA g_cIs (fb_var 0) (FE.toB fe_bl) (nomark _)))))
theorem b__law_is_whole (z_isinstance : mg "isinstance" = none) (z_int : mg "int" = none) (z_bool : mg "bool" = none) : ∀ (X : Cx), X.prog = P → X.w = wo → X.K = K → X.mg = mg → X.base = base → X.N = (["told"] : List Str) → X.env.scope = defScope s__law_is_whole → X.fn = (fun _ => true) → XG X 0 → FSs X (defBody s__law_is_whole) m__law_is_whole := by
  intro X e1 e2 e3 e4 e5 e6 e7 e8 xg
  rcases X with ⟨P, wo, K, mg, base, A, N, s0, H0, ⟨sc, lo, gl, ce, qu, fu, co, fr, bu⟩, ou, st, ex, fn, ca, pn, xe⟩
  simp only at e1 e2 e3 e4 e5 e6 e7 e8
  subst e1 e2 e3 e4 e5 e6 e7 e8
  have hc := xg.calm; have hN := xg.nd; have hr := xg.rm; have hpo := xg.po; have hgd := hr.g
  have u66 := hr.u66; have u65 := hr.u65; have u64 := hr.u64
  exact (fss_one (fs_ret (fe_and (fe_isi rfl z_isinstance rfl z_int boot_int (fb_var 0)) (fe_one (fe_not (FE.toB (fe_isi rfl z_isinstance rfl z_bool boot_bool (fb_var 0))))))))
theorem b__law_wrong_book (z_isinstance : mg "isinstance" = none) (z_tuple : mg "tuple" = none) (z_len : mg "len" = none) (z_enumerate : mg "enumerate" = none) (k__law_is_whole : Known P wo K mg base "_law_is_whole" "_law_is_whole" s__law_is_whole 1 ["told"] f__law_is_whole) (z_set : mg "set" = none) : ∀ (X : Cx), X.prog = P → X.w = wo → X.K = K → X.mg = mg → X.base = base → X.N = (["told", "one", "row", "two"] : List Str) → X.env.scope = defScope s__law_wrong_book → X.fn = (fun _ => true) → XG X 1 → FSs X (defBody s__law_wrong_book) m__law_wrong_book := by
  intro X e1 e2 e3 e4 e5 e6 e7 e8 xg
  rcases X with ⟨P, wo, K, mg, base, A, N, s0, H0, ⟨sc, lo, gl, ce, qu, fu, co, fr, bu⟩, ou, st, ex, fn, ca, pn, xe⟩
  simp only at e1 e2 e3 e4 e5 e6 e7 e8
  subst e1 e2 e3 e4 e5 e6 e7 e8
  have hc := xg.calm; have hN := xg.nd; have hr := xg.rm; have hpo := xg.po; have hgd := hr.g
  have u66 := hr.u66; have u65 := hr.u65; have u64 := hr.u64
  exact (fss_cons (fs_if (FW.ft (fw_or (ft_not (ft_val (FE.toB (fe_isi rfl z_isinstance rfl z_tuple boot_tuple (fb_var 0))))) (fw_or1 (ft_not (ft_chain op_lt g_cI op_lt g_cI fe_int (fe_callB call_len c_len rfl z_len boot_len (fas_cons (fb_var 0) fas_nil)) fe_int))))) (fss_one (fs_ret (FO.fe (fo_lst (fa_cons fe_non fa_nil))))) fss_nil) (fss_cons (fs_for hpo hc (fi_enum rfl z_enumerate (fe_var 0)) (fg_tup hc (fgs_cons (fg_name 1 hN) (fgs_cons (fg_name 2 hN) fgs_nil)) (hk := (aCons_len (aCons_len (fun _ _ _ _ h => aNil_len h))))) (fss_one (fs_if (FW.ft (fw_or (ft_not (ft_val (FE.toB (fe_isi rfl z_isinstance rfl z_tuple boot_tuple (fb_var 2))))) (fw_or (ft_cmp (op_neA u64) g_cNe (FE.toB (FO.fe (fo_lc (own := [("two", 3)]) hc hN (fi_seq (fe_var 2)) (blkOk_by (by dsimp only [Cx.blk, cE_scope]; decide +kernel)) (by decide) (fun _ _ _ _ _ => (fg_name 3 hN)) (fun _ _ _ _ _ => (fts_one (FW.ft (fw_or (ft_not (ft_val (FE.toB (fe_call k__law_is_whole hr (by decide) rfl b__law_is_whole_p (fa_cons (fe_var 3) fa_nil))))) (fw_or (ft_not (ft_chain op_lt g_cI op_lt g_cI (fe_un un_neg g_neg fe_int) (fe_var 3) (fe_callB call_len c_len rfl z_len boot_len (fas_cons (fb_var 0) fas_nil)))) (fw_or1 (ft_cmp (op_eqA u64) g_cEq (fb_var 3) (fb_var 1) (nomark _)))))))) (fun _ _ _ _ _ => (fe_var 3))))) (FE.toB (FO.fe (fo_lst fa_nil))) (nomark _)) (fw_or1 (ft_cmp op_lt g_cI (FE.toB (fe_lenSet hc rfl z_len rfl z_set (fb_var 2))) (FE.toB (fe_callB call_len c_len rfl z_len boot_len (fas_cons (fb_var 2) fas_nil))) (nomark _)))))) (fss_one (fs_ret (FO.fe (fo_lst (fa_cons (fe_var 1) fa_nil))))) fss_nil))) (fss_cons (fs_for hpo hc (fi_enum rfl z_enumerate (fe_var 0)) (fg_tup hc (fgs_cons (fg_name 1 hN) (fgs_cons (fg_name 2 hN) fgs_nil)) (hk := (aCons_len (aCons_len (fun _ _ _ _ h => aNil_len h))))) (fss_one (fs_if (ft_cmp (op_neA u64) g_cNe (FE.toB (FO.fe (fo_lc (own := [("two", 3)]) hc hN (fi_seq (fe_var 2)) (blkOk_by (by dsimp only [Cx.blk, cE_scope]; decide +kernel)) (by decide) (fun _ _ _ _ _ => (fg_name 3 hN)) (fun _ _ _ _ _ => (fts_one (ft_cmp (op_notInA u65) g_cIn (fb_var 1) (FE.toB (fe_ix (fb_var 0) (fe_var 3))) (by with_unfolding_all rfl)))) (fun _ _ _ _ _ => (fe_var 3))))) (FE.toB (FO.fe (fo_lst fa_nil))) (nomark _)) (fss_one (fs_ret (FO.fe (fo_lst (fa_cons (fe_var 1) fa_nil))))) fss_nil))) (fss_one (fs_ret (FO.fe (fo_lst fa_nil)))))))
theorem b__law_right (k__law_book : Known P wo K mg base "_law_book" "_law_book" s__law_book 3 ["pool", "many"] f__law_book) (k_is_book : Known P wo K mg base "is_book" "is_book" s_is_book 7 ["value"] f_is_book) (z_tuple : mg "tuple" = none) (k__law_mixed : Known P wo K mg base "_law_mixed" "_law_mixed" s__law_mixed 2 ["pool", "some"] f__law_mixed) (k__law_bent_books : Known P wo K mg base "_law_bent_books" "_law_bent_books" s__law_bent_books 2 ["pool", "book"] f__law_bent_books) (k__law_draw : Known P wo K mg base "_law_draw" "_law_draw" s__law_draw 1 ["pool", "many"] f__law_draw) (k__law_tells : Known P wo K mg base "_law_tells" "_law_tells" s__law_tells 1 ["told", "due"] f__law_tells) (k__law_wrong_book : Known P wo K mg base "_law_wrong_book" "_law_wrong_book" s__law_wrong_book 2 ["told"] f__law_wrong_book) (k__law_couples : Known P wo K mg base "_law_couples" "_law_couples" s__law_couples 1 ["book"] f__law_couples) (k__law_pick : Known P wo K mg base "_law_pick" "_law_pick" s__law_pick 2 ["pool", "some"] f__law_pick) (k__law_put : Known P wo K mg base "_law_put" "_law_put" s__law_put 1 ["some", "at", "each"] f__law_put) (k__law_same : Known P wo K mg base "_law_same" "_law_same" s__law_same 13 ["one", "other"] f__law_same) : ∀ (X : Cx), X.prog = P → X.w = wo → X.K = K → X.mg = mg → X.base = base → X.N = (["pool", "many", "book", "row", "value", "told", "couples", "one", "two", "bare", "each", "both", "known"] : List Str) → X.env.scope = defScope s__law_right → X.fn = (fun _ => true) → XG X 13 → FSs X (defBody s__law_right) m__law_right := by
  intro X e1 e2 e3 e4 e5 e6 e7 e8 xg
  rcases X with ⟨P, wo, K, mg, base, A, N, s0, H0, ⟨sc, lo, gl, ce, qu, fu, co, fr, bu⟩, ou, st, ex, fn, ca, pn, xe⟩
  simp only at e1 e2 e3 e4 e5 e6 e7 e8
  subst e1 e2 e3 e4 e5 e6 e7 e8
  have hc := xg.calm; have hN := xg.nd; have hr := xg.rm; have hpo := xg.po; have hgd := hr.g
  have u66 := hr.u66; have u65 := hr.u65; have u64 := hr.u64
  exact (fss_cons (fs_for hpo hc (fi_seq (FO.fe (fo_lst (fa_cons fe_int (fa_cons fe_int (fa_cons fe_int (fa_cons fe_int (fa_cons fe_int (fa_cons fe_int (fa_cons fe_int (fa_cons fe_int fa_nil))))))))))) (fg_name 1 hN) (fss_cons (fs_set 2 hN (fe_callP k__law_book hr (by decide) rfl b__law_book_p (fa_cons (fe_var 0) (fa_cons (fe_var 1) fa_nil)))) (fss_cons (fs_if (FW.ft (fw_or (ft_cmp op_isNotA g_cIs (FE.toB (fe_call k_is_book hr (by decide) rfl b_is_book_p (fa_cons (fe_var 2) fa_nil))) (FE.toB fe_bl) (nomark _)) (fw_or (ft_cmp op_isNotA g_cIs (FE.toB (fe_callK0 hex_call k_is_book hr (by decide) rfl bk_is_book_0_value (fk_cons (fe_callTy cr_tupOf c_tupOf rfl z_tuple boot_tuple (fas_cons (FE.toB (FO.fe (fo_lc (own := [("row", 3)]) hc hN (fi_seq (fe_var 2)) (blkOk_by (by dsimp only [Cx.blk, cE_scope]; decide +kernel)) (by decide) (fun _ _ _ _ _ => (fg_name 3 hN)) (fun _ _ _ _ _ => fts_nil) (fun _ _ _ _ _ => (fe_callTy cr_tupOf c_tupOf rfl z_tuple boot_tuple (fas_cons (FE.toB (fe_callP k__law_mixed hr (by decide) rfl b__law_mixed_p (fa_cons (fe_var 0) (fa_cons (fe_var 3) fa_nil)))) fas_nil)))))) fas_nil)) fk_nil))) (FE.toB fe_bl) (nomark _)) (fw_or1 (ft_cmp op_isNotA g_cIs (FE.toB (fe_call k_is_book hr (by decide) rfl b_is_book_p (fa_cons (fe_callTy cr_tupOf c_tupOf rfl z_tuple boot_tuple (fas_cons (FE.toB (FO.fe (fo_lc (own := [("row", 3)]) hc hN (fi_seq (fe_var 2)) (blkOk_by (by dsimp only [Cx.blk, cE_scope]; decide +kernel)) (by decide) (fun _ _ _ _ _ => (fg_name 3 hN)) (fun _ _ _ _ _ => fts_nil) (fun _ _ _ _ _ => (fe_rev (fb_var 3)))))) fas_nil)) fa_nil))) (FE.toB fe_bl) (nomark _)))))) (fss_one (fs_ret fe_bl)) fss_nil) (fss_cons (fs_for hpo hc (fi_seq (fe_op op_addA g_addA (fe_op op_addA g_addA (fe_callP k__law_bent_books hr (by decide) rfl b__law_bent_books_p (fa_cons (fe_var 0) (fa_cons (fe_var 2) fa_nil))) (fe_callP k__law_bent_books hr (by decide) rfl b__law_bent_books_p (fa_cons (fe_var 0) (fa_cons (fe_var 2) fa_nil)))) (fe_callP k__law_bent_books hr (by decide) rfl b__law_bent_books_p (fa_cons (fe_var 0) (fa_cons (fe_var 2) fa_nil))))) (fg_name 4 hN) (fss_cons (fs_set 5 hN (fe_if (ft_cmp (op_eqA u64) g_cEq (FE.toB (fe_callP k__law_draw hr (by decide) rfl b__law_draw_p (fa_cons (fe_var 0) (fa_cons fe_int fa_nil)))) (FE.toB fe_int) (nomark _)) (fe_callK0 hex_call k_is_book hr (by decide) rfl bk_is_book_0_value (fk_cons (fe_var 4) fk_nil)) (fe_call k_is_book hr (by decide) rfl b_is_book_p (fa_cons (fe_var 4) fa_nil)))) (fss_one (fs_if (ft_not (ft_val (FE.toB (fe_call k__law_tells hr (by decide) rfl b__law_tells_p (fa_cons (fe_var 5) (fa_cons (fe_cmp (op_eqA u64) g_cEq (FE.toB (fe_call k__law_wrong_book hr (by decide) rfl b__law_wrong_book_p (fa_cons (fe_var 4) fa_nil))) (FE.toB (FO.fe (fo_lst fa_nil))) (nomark _)) fa_nil)))))) (fss_one (fs_ret fe_bl)) fss_nil)))) (fss_cons (fs_set 6 hN (fe_call k__law_couples hr (by decide) rfl b__law_couples_p (fa_cons (fe_var 2) fa_nil))) (fss_one (fs_if (ft_cmp (op_neA u64) g_cNe (fb_var 6) (FE.toB (FO.fe (fo_lst fa_nil))) (nomark _)) (fss_cons (fs_asg (fe_callP k__law_pick hr (by decide) rfl b__law_pick_p (fa_cons (fe_var 0) (fa_cons (fe_var 6) fa_nil))) (fg_tup hc (fgs_cons (fg_name 7 hN) (fgs_cons (fg_name 8 hN) fgs_nil)) (hk := (aCons_len (aCons_len (fun _ _ _ _ h => aNil_len h)))))) (fss_cons (fs_set 9 hN (fe_call k__law_put hr (by decide) rfl b__law_put_p (fa_cons (fe_var 2) (fa_cons (fe_var 7) (fa_cons (fe_callTy cr_tupOf c_tupOf rfl z_tuple boot_tuple (fas_cons (FE.toB (FO.fe (fo_lc (own := [("each", 10)]) hc hN (fi_seq (fe_ix (fb_var 2) (fe_var 7))) (blkOk_by (by dsimp only [Cx.blk, cE_scope]; decide +kernel)) (by decide) (fun _ _ _ _ _ => (fg_name 10 hN)) (fun _ _ _ _ _ => (fts_one (ft_cmp (op_neA u64) g_cNe (fb_var 10) (fb_var 8) (nomark _)))) (fun _ _ _ _ _ => (fe_var 10))))) fas_nil)) fa_nil))))) (fss_cons (fs_set 11 hN (fe_call k__law_put hr (by decide) rfl b__law_put_p (fa_cons (fe_var 9) (fa_cons (fe_var 8) (fa_cons (fe_callTy cr_tupOf c_tupOf rfl z_tuple boot_tuple (fas_cons (FE.toB (FO.fe (fo_lc (own := [("each", 10)]) hc hN (fi_seq (fe_ix (fb_var 2) (fe_var 8))) (blkOk_by (by dsimp only [Cx.blk, cE_scope]; decide +kernel)) (by decide) (fun _ _ _ _ _ => (fg_name 10 hN)) (fun _ _ _ _ _ => (fts_one (ft_cmp (op_neA u64) g_cNe (fb_var 10) (fb_var 7) (nomark _)))) (fun _ _ _ _ _ => (fe_var 10))))) fas_nil)) fa_nil))))) (fss_one (fs_if (ft_not (ft_val (FE.toB (fe_call k__law_same hr (by decide) rfl b__law_same_p (fa_cons (FO.fe (fo_lst (fa_cons (fe_call k_is_book hr (by decide) rfl b_is_book_p (fa_cons (fe_var 9) fa_nil)) (fa_cons (fe_call k_is_book hr (by decide) rfl b_is_book_p (fa_cons (fe_var 11) fa_nil)) fa_nil)))) (fa_cons (FO.fe (fo_lst (fa_cons fe_bl (fa_cons fe_bl fa_nil)))) fa_nil)))))) (fss_one (fs_ret fe_bl)) fss_nil))))) fss_nil))))))) (fss_cons (fs_set 12 hN (FO.fe (fo_lst (fa_cons (fe_tup (fa_cons (fe_tup fa_nil) fa_nil)) (fa_cons (fe_tup (fa_cons (fe_tup (fa_cons fe_int fa_nil)) (fa_cons (fe_tup (fa_cons fe_int fa_nil)) fa_nil))) (fa_cons (fe_tup (fa_cons (fe_tup (fa_cons fe_int fa_nil)) (fa_cons (fe_tup fa_nil) fa_nil))) (fa_cons (fe_tup (fa_cons (fe_tup (fa_cons fe_int fa_nil)) fa_nil)) (fa_cons (fe_tup fa_nil) (fa_cons (fe_op (OpR.or op_mul op_repZ) g_mulT (fe_tup (fa_cons (fe_tup fa_nil) fa_nil)) fe_int) (fa_cons (fe_op (OpR.or op_mul op_repZ) g_mulT (fe_tup (fa_cons (fe_tup fa_nil) fa_nil)) fe_int) (fa_cons (fe_tup (fa_cons (fe_tup (fa_cons fe_int (fa_cons fe_int fa_nil))) (fa_cons (fe_tup (fa_cons fe_int (fa_cons fe_int fa_nil))) (fa_cons (fe_tup (fa_cons fe_int (fa_cons fe_int fa_nil))) fa_nil)))) (fa_cons (fe_tup (fa_cons (fe_tup (fa_cons fe_int (fa_cons fe_int fa_nil))) (fa_cons (fe_tup (fa_cons fe_int fa_nil)) fa_nil))) (fa_cons (fe_tup (fa_cons (fe_tup (fa_cons fe_bl fa_nil)) (fa_cons (fe_tup (fa_cons fe_int fa_nil)) fa_nil))) (fa_cons (fe_tup (fa_cons (fe_tup (fa_cons fe_int fa_nil)) (fa_cons (fe_tup (fa_cons fe_bl fa_nil)) fa_nil))) fa_nil)))))))))))))) (fss_one (fs_ret (fe_call k__law_same hr (by decide) rfl b__law_same_p (fa_cons (FO.fe (fo_lc (own := [("each", 10)]) hc hN (fi_seq (fe_var 12)) (blkOk_by (by dsimp only [Cx.blk, cE_scope]; decide +kernel)) (by decide) (fun _ _ _ _ _ => (fg_name 10 hN)) (fun _ _ _ _ _ => fts_nil) (fun _ _ _ _ _ => (fe_call k_is_book hr (by decide) rfl b_is_book_p (fa_cons (fe_var 10) fa_nil))))) (fa_cons (FO.fe (fo_lst (fa_cons fe_bl (fa_cons fe_bl (fa_cons fe_bl (fa_cons fe_bl (fa_cons fe_bl (fa_cons fe_bl (fa_cons fe_bl (fa_cons fe_bl (fa_cons fe_bl (fa_cons fe_bl (fa_cons fe_bl fa_nil))))))))))))) fa_nil)))))))
theorem b__law_pool (z_abs : mg "abs" = none) (z_int : mg "int" = none) (z_len : mg "len" = none) : ∀ (X : Cx), X.prog = P → X.w = wo → X.K = K → X.mg = mg → X.base = base → X.N = (["script", "lap", "own", "stirred", "cell"] : List Str) → X.env.scope = defScope s__law_pool → X.fn = (fun _ => true) → XG X 0 → FSL X (defBody s__law_pool) m__law_pool := by
  intro X e1 e2 e3 e4 e5 e6 e7 e8 xg
  rcases X with ⟨P, wo, K, mg, base, A, N, s0, H0, ⟨sc, lo, gl, ce, qu, fu, co, fr, bu⟩, ou, st, ex, fn, ca, pn, xe⟩
  simp only at e1 e2 e3 e4 e5 e6 e7 e8
  subst e1 e2 e3 e4 e5 e6 e7 e8
  have hc := xg.calm; have hN := xg.nd; have hr := xg.rm; have hpo := xg.po; have hgd := hr.g
  have u66 := hr.u66; have u65 := hr.u65; have u64 := hr.u64
  exact (fsl_cons (fs_par 2 3 hc hN (fm_v (fe_if (ft_cmp op_lt g_cI (fb_var 1) (FE.toB (fe_callB call_len c_len rfl z_len boot_len (fas_cons (fb_var 0) fas_nil))) (nomark _)) (fe_callTy call_int1 c_int rfl z_int boot_int (fas_cons (FE.toB (fe_ix (fb_var 0) (fe_var 1))) fas_nil)) (fe_op op_addA g_addA (fe_op op_mul g_ar fe_int (fe_var 1)) fe_int)) (fm_v (fe_op op_addA g_addA fe_int (fe_op op_mul g_ar fe_int (fe_var 1))) fm_nil))) (fsl_cons (fs_for hpo hc (fi_seq (fe_slice (fb_var 0) fp_none (fp_some fe_int))) (fg_name 4 hN) (fss_one (fs_set 3 hN (fe_op op_modN g_ar (fe_callTy call_int1 c_int rfl z_int boot_int (fas_cons (FE.toB (fe_op op_addA g_addA (fe_op op_addA g_addA (fe_op op_mul g_ar (fe_var 3) fe_int) (fe_op op_modN g_ar (fe_callTy call_int1 c_int rfl z_int boot_int (fas_cons (fb_var 4) fas_nil)) fe_int)) fe_int)) fas_nil)) fe_int)))) (fsl_ret (fo_lst (fa_cons (fe_op op_modN g_ar (fe_callTy call_int1 c_int rfl z_int boot_int (fas_cons (FE.toB (fe_op op_addA g_addA (fe_var 3) (fe_op op_mul g_ar (fe_var 2) fe_int))) fas_nil)) fe_int) (fa_cons (fe_if (FW.ft (fw_or (ft_cmp op_lt g_cI (fb_var 2) (FE.toB fe_int) (nomark _)) (fw_or1 (ft_cmp op_ge g_cI (fb_var 2) (FE.toB (fe_op op_pow g_ar fe_int fe_int)) (nomark _))))) (fe_callB call_abs c_abs rfl z_abs boot_abs (fas_cons (fb_var 2) fas_nil)) fe_int) (fa_cons fe_int fa_nil)))))))
theorem b_law (z_range : mg "range" = none) (z_max : mg "max" = none) (z_min : mg "min" = none) (z_len : mg "len" = none) (k__law_right : Known P wo K mg base "_law_right" "_law_right" s__law_right 14 ["pool"] f__law_right) (k__law_pool : KnownL P wo K mg base "_law_pool" "_law_pool" s__law_pool 1 ["script", "lap"] f__law_pool) : ∀ (X : Cx), X.prog = P → X.w = wo → X.K = K → X.mg = mg → X.base = base → X.N = (["script", "lap"] : List Str) → X.env.scope = defScope s_law → X.fn = (fun _ => true) → XG X 14 → FSs X (defBody s_law) m_law := by
  intro X e1 e2 e3 e4 e5 e6 e7 e8 xg
  rcases X with ⟨P, wo, K, mg, base, A, N, s0, H0, ⟨sc, lo, gl, ce, qu, fu, co, fr, bu⟩, ou, st, ex, fn, ca, pn, xe⟩
  simp only at e1 e2 e3 e4 e5 e6 e7 e8
  subst e1 e2 e3 e4 e5 e6 e7 e8
  have hc := xg.calm; have hN := xg.nd; have hr := xg.rm; have hpo := xg.po; have hgd := hr.g
  have u66 := hr.u66; have u65 := hr.u65; have u64 := hr.u64
  exact (fss_cons (fs_for hpo hc (fi_range1 rfl z_range (fe_callB (call_max2 hc) c_max2 rfl z_max boot_max (fas_cons (FE.toB fe_int) (fas_cons (FE.toB (fe_callB (call_min2 hc) c_min2 rfl z_min boot_min (fas_cons (FE.toB (fe_callB call_len c_len rfl z_len boot_len (fas_cons (fb_var 0) fas_nil))) (fas_cons (FE.toB fe_int) fas_nil)))) fas_nil)))) (fg_name 1 hN) (fss_one (fs_if (ft_not (ft_val (FE.toB (fe_callX k__law_right hr (by decide) rfl b__law_right_p (fo_call k__law_pool hr (by decide) rfl b__law_pool_p (fa_cons (fe_var 0) (fa_cons (fe_var 1) fa_nil))))))) (fss_one (fs_ret fe_bl)) fss_nil))) (fss_one (fs_ret fe_bl)))
end
theorem all_mk {l : PySem.W.OpenLaw} {w : World} {K : PySem.W.Frag} {h : Heap} {mg : Str → Option Value} {fa f0 f1 f2 f3 f4 f5 f6 f7 f8 f9 f10 f11 f12 f13 f14 f15 f16 f17 f18 f19 f20 f21 : Addr} (X : K.In h) (G : h.Ns mainGlobals mg) (hfa : mg "law" = some (.ref fa))
    {od0 an0 : Option Addr} {sl0 : Array (Option Value)} {oc0 kV0 dc0 pm0 cd0 ct0 : Value}
    (a0 : PySem.W.nsIn K mainGlobals "_law_same" = some (some (.ref f0))) (l0 : K.lookup f0 = some ⟨oc0, od0, .func (PySem.W.fnOf "_law_same" "_law_same" (defArgs s__law_same) (defBody s__law_same) (defScope s__law_same) .none kV0 dc0 pm0 an0 cd0 ct0), sl0⟩) (c0 : PySem.W.codeIn K cd0 "_law_same" = true) (k0 : PySem.W.keepIn K (.ref f0) = true)
    {od1 an1 : Option Addr} {sl1 : Array (Option Value)} {oc1 kV1 dc1 pm1 cd1 ct1 : Value}
    (a1 : PySem.W.nsIn K mainGlobals "_law_draw" = some (some (.ref f1))) (l1 : K.lookup f1 = some ⟨oc1, od1, .func (PySem.W.fnOf "_law_draw" "_law_draw" (defArgs s__law_draw) (defBody s__law_draw) (defScope s__law_draw) .none kV1 dc1 pm1 an1 cd1 ct1), sl1⟩) (c1 : PySem.W.codeIn K cd1 "_law_draw" = true) (k1 : PySem.W.keepIn K (.ref f1) = true)
    {od2 an2 : Option Addr} {sl2 : Array (Option Value)} {oc2 kV2 dc2 pm2 cd2 ct2 : Value}
    (a2 : PySem.W.nsIn K mainGlobals "_law_mixed" = some (some (.ref f2))) (l2 : K.lookup f2 = some ⟨oc2, od2, .func (PySem.W.fnOf "_law_mixed" "_law_mixed" (defArgs s__law_mixed) (defBody s__law_mixed) (defScope s__law_mixed) .none kV2 dc2 pm2 an2 cd2 ct2), sl2⟩) (c2 : PySem.W.codeIn K cd2 "_law_mixed" = true) (k2 : PySem.W.keepIn K (.ref f2) = true)
    {od3 an3 : Option Addr} {sl3 : Array (Option Value)} {oc3 kV3 dc3 pm3 cd3 ct3 : Value}
    (a3 : PySem.W.nsIn K mainGlobals "_law_book" = some (some (.ref f3))) (l3 : K.lookup f3 = some ⟨oc3, od3, .func (PySem.W.fnOf "_law_book" "_law_book" (defArgs s__law_book) (defBody s__law_book) (defScope s__law_book) .none kV3 dc3 pm3 an3 cd3 ct3), sl3⟩) (c3 : PySem.W.codeIn K cd3 "_law_book" = true) (k3 : PySem.W.keepIn K (.ref f3) = true)
    {od4 an4 : Option Addr} {sl4 : Array (Option Value)} {oc4 kV4 dc4 pm4 cd4 ct4 : Value}
    (a4 : PySem.W.nsIn K mainGlobals "_law_couples" = some (some (.ref f4))) (l4 : K.lookup f4 = some ⟨oc4, od4, .func (PySem.W.fnOf "_law_couples" "_law_couples" (defArgs s__law_couples) (defBody s__law_couples) (defScope s__law_couples) .none kV4 dc4 pm4 an4 cd4 ct4), sl4⟩) (c4 : PySem.W.codeIn K cd4 "_law_couples" = true) (k4 : PySem.W.keepIn K (.ref f4) = true)
    {od5 an5 : Option Addr} {sl5 : Array (Option Value)} {oc5 kV5 dc5 pm5 cd5 ct5 : Value}
    (a5 : PySem.W.nsIn K mainGlobals "_law_put" = some (some (.ref f5))) (l5 : K.lookup f5 = some ⟨oc5, od5, .func (PySem.W.fnOf "_law_put" "_law_put" (defArgs s__law_put) (defBody s__law_put) (defScope s__law_put) .none kV5 dc5 pm5 an5 cd5 ct5), sl5⟩) (c5 : PySem.W.codeIn K cd5 "_law_put" = true) (k5 : PySem.W.keepIn K (.ref f5) = true)
    {od6 an6 : Option Addr} {sl6 : Array (Option Value)} {oc6 kV6 dc6 pm6 cd6 ct6 : Value}
    (a6 : PySem.W.nsIn K mainGlobals "_law_bent_books" = some (some (.ref f6))) (l6 : K.lookup f6 = some ⟨oc6, od6, .func (PySem.W.fnOf "_law_bent_books" "_law_bent_books" (defArgs s__law_bent_books) (defBody s__law_bent_books) (defScope s__law_bent_books) .none kV6 dc6 pm6 an6 cd6 ct6), sl6⟩) (c6 : PySem.W.codeIn K cd6 "_law_bent_books" = true) (k6 : PySem.W.keepIn K (.ref f6) = true)
    {od7 an7 : Option Addr} {sl7 : Array (Option Value)} {oc7 kV7 dc7 pm7 cd7 ct7 : Value}
    (a7 : PySem.W.nsIn K mainGlobals "_law_pick" = some (some (.ref f7))) (l7 : K.lookup f7 = some ⟨oc7, od7, .func (PySem.W.fnOf "_law_pick" "_law_pick" (defArgs s__law_pick) (defBody s__law_pick) (defScope s__law_pick) .none kV7 dc7 pm7 an7 cd7 ct7), sl7⟩) (c7 : PySem.W.codeIn K cd7 "_law_pick" = true) (k7 : PySem.W.keepIn K (.ref f7) = true)
    {od8 an8 : Option Addr} {sl8 : Array (Option Value)} {oc8 kV8 dc8 pm8 cd8 ct8 : Value}
    (a8 : PySem.W.nsIn K mainGlobals "is_whole" = some (some (.ref f8))) (l8 : K.lookup f8 = some ⟨oc8, od8, .func (PySem.W.fnOf "is_whole" "is_whole" (defArgs s_is_whole) (defBody s_is_whole) (defScope s_is_whole) .none kV8 dc8 pm8 an8 cd8 ct8), sl8⟩) (c8 : PySem.W.codeIn K cd8 "is_whole" = true) (k8 : PySem.W.keepIn K (.ref f8) = true)
    {od9 an9 : Option Addr} {sl9 : Array (Option Value)} {oc9 kV9 dc9 pm9 cd9 ct9 : Value}
    (a9 : PySem.W.nsIn K mainGlobals "is_between" = some (some (.ref f9))) (l9 : K.lookup f9 = some ⟨oc9, od9, .func (PySem.W.fnOf "is_between" "is_between" (defArgs s_is_between) (defBody s_is_between) (defScope s_is_between) .none kV9 dc9 pm9 an9 cd9 ct9), sl9⟩) (c9 : PySem.W.codeIn K cd9 "is_between" = true) (k9 : PySem.W.keepIn K (.ref f9) = true)
    {od10 an10 : Option Addr} {sl10 : Array (Option Value)} {oc10 kV10 dc10 pm10 cd10 ct10 : Value}
    (a10 : PySem.W.nsIn K mainGlobals "is_person" = some (some (.ref f10))) (l10 : K.lookup f10 = some ⟨oc10, od10, .func (PySem.W.fnOf "is_person" "is_person" (defArgs s_is_person) (defBody s_is_person) (defScope s_is_person) .none kV10 dc10 pm10 an10 cd10 ct10), sl10⟩) (c10 : PySem.W.codeIn K cd10 "is_person" = true) (k10 : PySem.W.keepIn K (.ref f10) = true)
    {od11 an11 : Option Addr} {sl11 : Array (Option Value)} {oc11 kV11 dc11 pm11 cd11 ct11 : Value}
    (a11 : PySem.W.nsIn K mainGlobals "is_row" = some (some (.ref f11))) (l11 : K.lookup f11 = some ⟨oc11, od11, .func (PySem.W.fnOf "is_row" "is_row" (defArgs s_is_row) (defBody s_is_row) (defScope s_is_row) .none kV11 dc11 pm11 an11 cd11 ct11), sl11⟩) (c11 : PySem.W.codeIn K cd11 "is_row" = true) (k11 : PySem.W.keepIn K (.ref f11) = true)
    {od12 an12 : Option Addr} {sl12 : Array (Option Value)} {oc12 kV12 dc12 pm12 cd12 ct12 : Value}
    (a12 : PySem.W.nsIn K mainGlobals "has_strangers" = some (some (.ref f12))) (l12 : K.lookup f12 = some ⟨oc12, od12, .func (PySem.W.fnOf "has_strangers" "has_strangers" (defArgs s_has_strangers) (defBody s_has_strangers) (defScope s_has_strangers) .none kV12 dc12 pm12 an12 cd12 ct12), sl12⟩) (c12 : PySem.W.codeIn K cd12 "has_strangers" = true) (k12 : PySem.W.keepIn K (.ref f12) = true)
    {od13 an13 : Option Addr} {sl13 : Array (Option Value)} {oc13 kV13 dc13 pm13 cd13 ct13 : Value}
    (a13 : PySem.W.nsIn K mainGlobals "wrong_in_book" = some (some (.ref f13))) (l13 : K.lookup f13 = some ⟨oc13, od13, .func (PySem.W.fnOf "wrong_in_book" "wrong_in_book" (defArgs s_wrong_in_book) (defBody s_wrong_in_book) (defScope s_wrong_in_book) .none kV13 dc13 pm13 an13 cd13 ct13), sl13⟩) (c13 : PySem.W.codeIn K cd13 "wrong_in_book" = true) (k13 : PySem.W.keepIn K (.ref f13) = true)
    {od14 an14 : Option Addr} {sl14 : Array (Option Value)} {oc14 kV14 dc14 pm14 cd14 ct14 : Value}
    (a14 : PySem.W.nsIn K mainGlobals "is_book_by" = some (some (.ref f14))) (l14 : K.lookup f14 = some ⟨oc14, od14, .func (PySem.W.fnOf "is_book_by" "is_book_by" (defArgs s_is_book_by) (defBody s_is_book_by) (defScope s_is_book_by) .none kV14 dc14 pm14 an14 cd14 ct14), sl14⟩) (c14 : PySem.W.codeIn K cd14 "is_book_by" = true) (k14 : PySem.W.keepIn K (.ref f14) = true)
    {od15 an15 : Option Addr} {sl15 : Array (Option Value)} {oc15 kV15 dc15 pm15 cd15 ct15 : Value}
    (a15 : PySem.W.nsIn K mainGlobals "is_book" = some (some (.ref f15))) (l15 : K.lookup f15 = some ⟨oc15, od15, .func (PySem.W.fnOf "is_book" "is_book" (defArgs s_is_book) (defBody s_is_book) (defScope s_is_book) .none kV15 dc15 pm15 an15 cd15 ct15), sl15⟩) (c15 : PySem.W.codeIn K cd15 "is_book" = true) (k15 : PySem.W.keepIn K (.ref f15) = true)
    {od16 an16 : Option Addr} {sl16 : Array (Option Value)} {oc16 kV16 dc16 pm16 cd16 ct16 : Value}
    (a16 : PySem.W.nsIn K mainGlobals "_law_tells" = some (some (.ref f16))) (l16 : K.lookup f16 = some ⟨oc16, od16, .func (PySem.W.fnOf "_law_tells" "_law_tells" (defArgs s__law_tells) (defBody s__law_tells) (defScope s__law_tells) .none kV16 dc16 pm16 an16 cd16 ct16), sl16⟩) (c16 : PySem.W.codeIn K cd16 "_law_tells" = true) (k16 : PySem.W.keepIn K (.ref f16) = true)
    {od17 an17 : Option Addr} {sl17 : Array (Option Value)} {oc17 kV17 dc17 pm17 cd17 ct17 : Value}
    (a17 : PySem.W.nsIn K mainGlobals "_law_is_whole" = some (some (.ref f17))) (l17 : K.lookup f17 = some ⟨oc17, od17, .func (PySem.W.fnOf "_law_is_whole" "_law_is_whole" (defArgs s__law_is_whole) (defBody s__law_is_whole) (defScope s__law_is_whole) .none kV17 dc17 pm17 an17 cd17 ct17), sl17⟩) (c17 : PySem.W.codeIn K cd17 "_law_is_whole" = true) (k17 : PySem.W.keepIn K (.ref f17) = true)
    {od18 an18 : Option Addr} {sl18 : Array (Option Value)} {oc18 kV18 dc18 pm18 cd18 ct18 : Value}
    (a18 : PySem.W.nsIn K mainGlobals "_law_wrong_book" = some (some (.ref f18))) (l18 : K.lookup f18 = some ⟨oc18, od18, .func (PySem.W.fnOf "_law_wrong_book" "_law_wrong_book" (defArgs s__law_wrong_book) (defBody s__law_wrong_book) (defScope s__law_wrong_book) .none kV18 dc18 pm18 an18 cd18 ct18), sl18⟩) (c18 : PySem.W.codeIn K cd18 "_law_wrong_book" = true) (k18 : PySem.W.keepIn K (.ref f18) = true)
    {od19 an19 : Option Addr} {sl19 : Array (Option Value)} {oc19 kV19 dc19 pm19 cd19 ct19 : Value}
    (a19 : PySem.W.nsIn K mainGlobals "_law_right" = some (some (.ref f19))) (l19 : K.lookup f19 = some ⟨oc19, od19, .func (PySem.W.fnOf "_law_right" "_law_right" (defArgs s__law_right) (defBody s__law_right) (defScope s__law_right) .none kV19 dc19 pm19 an19 cd19 ct19), sl19⟩) (c19 : PySem.W.codeIn K cd19 "_law_right" = true) (k19 : PySem.W.keepIn K (.ref f19) = true)
    {od20 an20 : Option Addr} {sl20 : Array (Option Value)} {oc20 kV20 dc20 pm20 cd20 ct20 : Value}
    (a20 : PySem.W.nsIn K mainGlobals "_law_pool" = some (some (.ref f20))) (l20 : K.lookup f20 = some ⟨oc20, od20, .func (PySem.W.fnOf "_law_pool" "_law_pool" (defArgs s__law_pool) (defBody s__law_pool) (defScope s__law_pool) .none kV20 dc20 pm20 an20 cd20 ct20), sl20⟩) (c20 : PySem.W.codeIn K cd20 "_law_pool" = true) (k20 : PySem.W.keepIn K (.ref f20) = true)
    {od21 an21 : Option Addr} {sl21 : Array (Option Value)} {oc21 kV21 dc21 pm21 cd21 ct21 : Value}
    (a21 : PySem.W.nsIn K mainGlobals "law" = some (some (.ref f21))) (l21 : K.lookup f21 = some ⟨oc21, od21, .func (PySem.W.fnOf "law" "law" (defArgs s_law) (defBody s_law) (defScope s_law) .none kV21 dc21 pm21 an21 cd21 ct21), sl21⟩) (c21 : PySem.W.codeIn K cd21 "law" = true) (k21 : PySem.W.keepIn K (.ref f21) = true)
    (z_isinstance : PySem.W.nsIn K mainGlobals "isinstance" = some none)
    (z_tuple : PySem.W.nsIn K mainGlobals "tuple" = some none)
    (z_len : PySem.W.nsIn K mainGlobals "len" = some none)
    (z_range : PySem.W.nsIn K mainGlobals "range" = some none)
    (z_bool : PySem.W.nsIn K mainGlobals "bool" = some none)
    (z_int : PySem.W.nsIn K mainGlobals "int" = some none)
    (z_str : PySem.W.nsIn K mainGlobals "str" = some none)
    (z_divmod : PySem.W.nsIn K mainGlobals "divmod" = some none)
    (z_list : PySem.W.nsIn K mainGlobals "list" = some none)
    (z_max : PySem.W.nsIn K mainGlobals "max" = some none)
    (z_min : PySem.W.nsIn K mainGlobals "min" = some none)
    (z_all : PySem.W.nsIn K mainGlobals "all" = some none)
    (z_enumerate : PySem.W.nsIn K mainGlobals "enumerate" = some none)
    (z_any : PySem.W.nsIn K mainGlobals "any" = some none)
    (z_set : PySem.W.nsIn K mainGlobals "set" = some none)
    (z_abs : PySem.W.nsIn K mainGlobals "abs" = some none)
    {t_MOST_PERSONS : Tok} (i_MOST_PERSONS : PySem.W.nsIn K mainGlobals "MOST_PERSONS" = some (some (.int 7 t_MOST_PERSONS)))
    : ∃ fd : FuncData, (∀ (s : Shared) (v : Value), BindsTo s fd ⟨[v], []⟩ [("script", v)]) ∧ ∀ base : Heap, K.In base → base.Ns mainGlobals mg → FnG l.prog w K mg base 15 fa fd ["script"] (spF K mg f_law) := by
  have e := hfa.symm.trans (PySem.W.mg_of X G a21)
  cases e
  have F0 := fun_mk (st := s__law_same) l0 c0 k0
  have F1 := fun_mk (st := s__law_draw) l1 c1 k1
  have F2 := fun_mk (st := s__law_mixed) l2 c2 k2
  have F3 := fun_mk (st := s__law_book) l3 c3 k3
  have F4 := fun_mk (st := s__law_couples) l4 c4 k4
  have F5 := fun_mk (st := s__law_put) l5 c5 k5
  have F6 := fun_mk (st := s__law_bent_books) l6 c6 k6
  have F7 := fun_mk (st := s__law_pick) l7 c7 k7
  have F8 := fun_mk (st := s_is_whole) l8 c8 k8
  have F9 := fun_mk (st := s_is_between) l9 c9 k9
  have F10 := fun_mk (st := s_is_person) l10 c10 k10
  have F11 := fun_mk (st := s_is_row) l11 c11 k11
  have F12 := fun_mk (st := s_has_strangers) l12 c12 k12
  have F13 := fun_mk (st := s_wrong_in_book) l13 c13 k13
  have F14 := fun_mk (st := s_is_book_by) l14 c14 k14
  have F15 := fun_mk (st := s_is_book) l15 c15 k15
  have F16 := fun_mk (st := s__law_tells) l16 c16 k16
  have F17 := fun_mk (st := s__law_is_whole) l17 c17 k17
  have F18 := fun_mk (st := s__law_wrong_book) l18 c18 k18
  have F19 := fun_mk (st := s__law_right) l19 c19 k19
  have F20 := fun_mk (st := s__law_pool) l20 c20 k20
  have F21 := fun_mk (st := s_law) l21 c21 k21
  have y_isinstance := PySem.W.mg_none_of X G z_isinstance
  have y_tuple := PySem.W.mg_none_of X G z_tuple
  have y_len := PySem.W.mg_none_of X G z_len
  have y_range := PySem.W.mg_none_of X G z_range
  have y_bool := PySem.W.mg_none_of X G z_bool
  have y_int := PySem.W.mg_none_of X G z_int
  have y_str := PySem.W.mg_none_of X G z_str
  have y_divmod := PySem.W.mg_none_of X G z_divmod
  have y_list := PySem.W.mg_none_of X G z_list
  have y_max := PySem.W.mg_none_of X G z_max
  have y_min := PySem.W.mg_none_of X G z_min
  have y_all := PySem.W.mg_none_of X G z_all
  have y_enumerate := PySem.W.mg_none_of X G z_enumerate
  have y_any := PySem.W.mg_none_of X G z_any
  have y_set := PySem.W.mg_none_of X G z_set
  have y_abs := PySem.W.mg_none_of X G z_abs
  have j_MOST_PERSONS : ∃ t, mg "MOST_PERSONS" = some (.int 7 t) := ⟨t_MOST_PERSONS, PySem.W.mg_of X G i_MOST_PERSONS⟩
  refine ⟨PySem.W.fnOf "law" "law" (defArgs s_law) (defBody s_law) (defScope s_law) .none kV21 dc21 pm21 an21 cd21 ct21, fun s v => .of_eq rfl, fun base _ _ => ?_⟩
  have n__law_same_ : ∀ j : Nat, Known l.prog w K mg base "_law_same" "_law_same" s__law_same (1 + j) ["one", "other"] (r__law_same j) := fun j => by
    induction j with
    | zero => exact known_def F0 (PySem.W.mg_of X G a0) sc__law_same (fun X _ _ _ _ _ _ _ _ _ => fss_never)
    | succ j ih => exact known_def F0 (PySem.W.mg_of X G a0) sc__law_same (b__law_same y_isinstance y_tuple y_len y_range y_bool y_int y_str ih)
  have n__law_same : Known l.prog w K mg base "_law_same" "_law_same" s__law_same 13 ["one", "other"] f__law_same := n__law_same_ 12
  have n__law_draw : Known l.prog w K mg base "_law_draw" "_law_draw" s__law_draw 1 ["pool", "many"] f__law_draw := known_def F1 (PySem.W.mg_of X G a1) sc__law_draw (b__law_draw y_divmod y_int)
  have n__law_mixed : Known l.prog w K mg base "_law_mixed" "_law_mixed" s__law_mixed 2 ["pool", "some"] f__law_mixed := known_def F2 (PySem.W.mg_of X G a2) sc__law_mixed (b__law_mixed y_list y_range y_len n__law_draw)
  have n__law_book : Known l.prog w K mg base "_law_book" "_law_book" s__law_book 3 ["pool", "many"] f__law_book := known_def F3 (PySem.W.mg_of X G a3) sc__law_book (b__law_book n__law_draw y_range y_int y_max y_min n__law_mixed y_tuple)
  have n__law_couples : Known l.prog w K mg base "_law_couples" "_law_couples" s__law_couples 1 ["book"] f__law_couples := known_def F4 (PySem.W.mg_of X G a4) sc__law_couples (b__law_couples y_range y_len)
  have n__law_put : Known l.prog w K mg base "_law_put" "_law_put" s__law_put 1 ["some", "at", "each"] f__law_put := known_def F5 (PySem.W.mg_of X G a5) sc__law_put (b__law_put)
  have n__law_bent_books : Known l.prog w K mg base "_law_bent_books" "_law_bent_books" s__law_bent_books 2 ["pool", "book"] f__law_bent_books := known_def F6 (PySem.W.mg_of X G a6) sc__law_bent_books (b__law_bent_books y_len n__law_draw y_list y_tuple y_range n__law_put)
  have n__law_pick : Known l.prog w K mg base "_law_pick" "_law_pick" s__law_pick 2 ["pool", "some"] f__law_pick := known_def F7 (PySem.W.mg_of X G a7) sc__law_pick (b__law_pick n__law_draw y_len)
  have n_is_whole : Known l.prog w K mg base "is_whole" "is_whole" s_is_whole 1 ["value"] f_is_whole := known_def F8 (PySem.W.mg_of X G a8) sc_is_whole (b_is_whole y_isinstance y_int y_bool)
  have n_is_between : Known l.prog w K mg base "is_between" "is_between" s_is_between 2 ["value", "low", "high"] f_is_between := known_def F9 (PySem.W.mg_of X G a9) sc_is_between (b_is_between n_is_whole)
  have n_is_person : Known l.prog w K mg base "is_person" "is_person" s_is_person 3 ["many", "value"] f_is_person := known_def F10 (PySem.W.mg_of X G a10) sc_is_person (b_is_person n_is_between)
  have n_is_row : Known l.prog w K mg base "is_row" "is_row" s_is_row 4 ["many", "own", "value"] f_is_row := known_def F11 (PySem.W.mg_of X G a11) sc_is_row (b_is_row y_isinstance y_tuple y_all n_is_person y_enumerate)
  have n_has_strangers : Known l.prog w K mg base "has_strangers" "has_strangers" s_has_strangers 1 ["book", "own"] f_has_strangers := known_def F12 (PySem.W.mg_of X G a12) sc_has_strangers (b_has_strangers y_any)
  have n_wrong_in_book : Known l.prog w K mg base "wrong_in_book" "wrong_in_book" s_wrong_in_book 5 ["value"] f_wrong_in_book := known_def F13 (PySem.W.mg_of X G a13) sc_wrong_in_book (b_wrong_in_book y_isinstance y_tuple y_len j_MOST_PERSONS y_enumerate n_is_row y_range n_has_strangers)
  have n_is_book_by : Known l.prog w K mg base "is_book_by" "is_book_by" s_is_book_by 6 ["value"] f_is_book_by := known_def F14 (PySem.W.mg_of X G a14) sc_is_book_by (b_is_book_by n_wrong_in_book)
  have n_is_book : Known l.prog w K mg base "is_book" "is_book" s_is_book 7 ["value"] f_is_book := known_def F15 (PySem.W.mg_of X G a15) sc_is_book (b_is_book n_is_book_by)
  have n__law_tells : Known l.prog w K mg base "_law_tells" "_law_tells" s__law_tells 1 ["told", "due"] f__law_tells := known_def F16 (PySem.W.mg_of X G a16) sc__law_tells (b__law_tells)
  have n__law_is_whole : Known l.prog w K mg base "_law_is_whole" "_law_is_whole" s__law_is_whole 1 ["told"] f__law_is_whole := known_def F17 (PySem.W.mg_of X G a17) sc__law_is_whole (b__law_is_whole y_isinstance y_int y_bool)
  have n__law_wrong_book : Known l.prog w K mg base "_law_wrong_book" "_law_wrong_book" s__law_wrong_book 2 ["told"] f__law_wrong_book := known_def F18 (PySem.W.mg_of X G a18) sc__law_wrong_book (b__law_wrong_book y_isinstance y_tuple y_len y_enumerate n__law_is_whole y_set)
  have n__law_right : Known l.prog w K mg base "_law_right" "_law_right" s__law_right 14 ["pool"] f__law_right := known_def F19 (PySem.W.mg_of X G a19) sc__law_right (b__law_right n__law_book n_is_book y_tuple n__law_mixed n__law_bent_books n__law_draw n__law_tells n__law_wrong_book n__law_couples n__law_pick n__law_put n__law_same)
  have n__law_pool : KnownL l.prog w K mg base "_law_pool" "_law_pool" s__law_pool 1 ["script", "lap"] f__law_pool := known_defL F20 (PySem.W.mg_of X G a20) sc__law_pool (b__law_pool y_abs y_int y_len)
  have n_law : Known l.prog w K mg base "law" "law" s_law 15 ["script"] f_law := known_def F21 (PySem.W.mg_of X G a21) sc_law (b_law y_range y_max y_min y_len n__law_right n__law_pool)
  exact n_law.fn hfa F21
end M
set_option maxHeartbeats 4000000
/-! k03: draws, orders, wants. -/
namespace M
open PySem PySem.Spec PyProof.Rows L2 FL
structure PoolOk (ps : List Int) : Prop where
  ex : ∃ a b c : Int, ps = [a, b, c] ∧ 0 ≤ a ∧ a < 2147483563 ∧ 0 ≤ b ∧ 0 ≤ c
theorem mul_c {i j : Int} (h1 : 0 ≤ i) (h2 : i < 2147483563) : L2.CMul i j := .inl ⟨by omega, by omega⟩
theorem draw_ok {ps : List Int} {m : Int} (h : PoolOk ps) (h1 : 1 ≤ m) (h2 : m < 1073741824) : ∃ k ps', 0 ≤ k ∧ k < m ∧ PoolOk ps' ∧ f__law_draw [poolD, .int m] (some ps) = .ok (.int k) (some ps') := by
  obtain ⟨a, b, c, rfl, ha, ha2, hb, hc⟩ := h.ex
  by_cases h0 : 0 < b
  · refine ⟨b % m, [a, b / m, c], Int.emod_nonneg _ (by omega), Int.emod_lt_of_pos _ (by omega), ⟨a, b / m, c, rfl, ha, ha2, Int.ediv_nonneg hb (by omega), hc⟩, ?_⟩
    have hd : L2.CDiv b m := ⟨by omega, h2⟩
    simp (config := { implicitDefEqProofs := false }) only [f__law_draw, fnB_a, m__law_draw, FL.lift_a, FL.eC_a, FL.eV_a, FL.eN_a, FL.eP_p, FL.rd_d, FL.rd_i, FL.rd_p, FL.toSrc_a, FL.e1_a, FL.e2_a, FL.eCmp_a, FL.eBool_a, FL.eChain_a, FL.eChain_t, FL.pure_a, FL.eTruth_a, FL.bNot_a, FL.bAnd_a, FL.bOr_a, FL.bYes_a, FL.eIf_a, FL.vAnd_a, FL.vOr_a, FL.asBool_a, FL.eNil_a, FL.eCons_a, FL.eTup_a, FL.eLst_a, FL.eL_a, FL.eIx_a, FL.eSl_a, FL.pNo_a, FL.pSo_a, FL.asInt_a, FL.sNil_a, FL.sCons_a, FL.rdA_n, FL.rdA_c, FL.eCall1_a, FL.eCallL_a, FL.eIsi_a, FL.eM1_a, FL.sSeq_a, FL.sSeqL_a, FL.sIfL_a, FL.sNx_a, FL.sBk_a, FL.sCt_a, FL.sRet_a, FL.sRetN_a, FL.sDrop_a, FL.sIf_a, FL.aN_a, FL.aNil_a, FL.aCons_a, FL.aTup_a, FL.aPool_0, FL.aPool_1, FL.aPool_2, FL.sSet_a, FL.sSetO_a, FL.sAsg_a, FL.sApp_a, FL.sExt_a, FL.ePop_a, FL.sStore_a, FL.aSub_a, FL.ownAt_a, FL.putAt_a, FL.sPar_a, FL.mNil_a, FL.mV_a, FL.mO_a, FL.setAll_c, FL.setAll_n, FL.eDm_a, FL.eCall_a, FL.eCallP_a, FL.eCallO_a, FL.eCallOP_a, FL.arrB_a, FL.iEn_a, FL.turn_a, FL.fnB_a, FL.fnL_a, FL.rep_s, FL.rep_z, FL.few_z, FL.few_1, FL.few_2, FL.few_3, FL.gAdd_i, FL.gSub_i, FL.cLt_i, FL.cLe_i, FL.cGt_i, FL.cGe_i, FL.cEq_i, FL.cNe_i, FL.cEq_str, FL.cNe_str, FL.eqv_b, FL.cEq_b, FL.truth_b, FL.truth_i, FL.truth_l, FL.truth_t, FL.gLen_l, FL.gLen_t, FL.gInt_i, FL.gTup_l, FL.gTup_t, FL.items_l, FL.items_t, FL.cIs_b, FL.gIx_l0, FL.gIx_l1, FL.gIx_l2, FL.gIx_t0, FL.gIx_t1, FL.gIx_t2, FL.cLt_n, FL.cLt_ni, FL.cLt_in, FL.cLe_n, FL.cLe_ni, FL.cLe_in, FL.cGt_n, FL.cGt_ni, FL.cGe_n, FL.cGe_ni, FL.cEq_n, FL.cEq_ni, FL.cEq_in, FL.cNe_n, FL.cNe_ni, FL.gAdd_n, FL.gAdd_ni, FL.gAdd_in, FL.gSub_ni, FL.gSub_nn, FL.gSub_in, FL.gInt_n, FL.cEq_tN, FL.cNe_tN, FL.cEq_lN, FL.sh_nilL, FL.sh_nilT, FL.gLen_tN, FL.gLen_tT, FL.gIx_tN, FL.gIx_tT, FL.items_tN, FL.items_tT, FL.ty_i, FL.ty_n, FL.ty_tN, FL.ty_tT, FL.kit_ii, FL.kit_ib, FL.kit_tt, FL.kit_lt, FL.same_tN, FL.same_l, FL.arr_n, FL.arr_c, List.getElem?_cons_zero, List.getElem?_cons_succ, List.set_cons_zero, List.set_cons_succ, List.length_cons, List.length_nil, List.map_cons, List.map_nil, List.cons_append, List.nil_append, Bool.not_true, Bool.not_false, if_true, if_false, Bool.false_eq_true, FL.R.bind, eq_self, and_self, decide_true, decide_false, Option.bind_some, Option.map_some, List.length_map, FL.wipeE, FL.backE, rep_s, rep_z, h0, hd, decide_true, decide_false]
  · have g1 : ∀ x : Int, x.fmod 2147483563 = x % 2147483563 := fun x => Int.fmod_eq_emod_of_nonneg _ (by omega)
    have g2 : ∀ x : Int, x.fmod m = x % m := fun x => Int.fmod_eq_emod_of_nonneg _ (by omega)
    have q1 : (0 : Int) ≤ (a * (a % 20011 + 30011) + 70001 * (c + 1) + 9) % 2147483563 := Int.emod_nonneg _ (by omega)
    have q2 : (a * (a % 20011 + 30011) + 70001 * (c + 1) + 9) % 2147483563 < 2147483563 := Int.emod_lt_of_pos _ (by omega)
    refine ⟨((a * (a % 20011 + 30011) + 70001 * (c + 1) + 9) % 2147483563).fdiv 128 % m, [(a * (a % 20011 + 30011) + 70001 * (c + 1) + 9) % 2147483563, b, c + 1], Int.emod_nonneg _ (by omega), Int.emod_lt_of_pos _ (by omega), ⟨_, b, c + 1, rfl, q1, q2, hb, by omega⟩, ?_⟩
    have hm : ∀ j, L2.CMul a j := fun j => mul_c ha ha2
    have hm2 : ∀ j, L2.CMul 70001 j := fun j => mul_c (by omega) (by omega)
    have hd : ∀ i, L2.CDivN i 128 := fun i => ⟨by omega, by decide⟩
    have hm0 : m ≠ 0 := by omega
    have g3 : a.fmod 20011 = a % 20011 := Int.fmod_eq_emod_of_nonneg _ (by omega)
    simp (config := { implicitDefEqProofs := false }) only [f__law_draw, m__law_draw, FL.lift_a, FL.eC_a, FL.eV_a, FL.eN_a, FL.eP_p, FL.rd_d, FL.rd_i, FL.rd_p, FL.toSrc_a, FL.e1_a, FL.e2_a, FL.eCmp_a, FL.eBool_a, FL.eChain_a, FL.eChain_t, FL.pure_a, FL.eTruth_a, FL.bNot_a, FL.bAnd_a, FL.bOr_a, FL.bYes_a, FL.eIf_a, FL.vAnd_a, FL.vOr_a, FL.asBool_a, FL.eNil_a, FL.eCons_a, FL.eTup_a, FL.eLst_a, FL.eL_a, FL.eIx_a, FL.eSl_a, FL.pNo_a, FL.pSo_a, FL.asInt_a, FL.sNil_a, FL.sCons_a, FL.rdA_n, FL.rdA_c, FL.eCall1_a, FL.eCallL_a, FL.eIsi_a, FL.eM1_a, FL.sSeq_a, FL.sSeqL_a, FL.sIfL_a, FL.sNx_a, FL.sBk_a, FL.sCt_a, FL.sRet_a, FL.sRetN_a, FL.sDrop_a, FL.sIf_a, FL.aN_a, FL.aNil_a, FL.aCons_a, FL.aTup_a, FL.aPool_0, FL.aPool_1, FL.aPool_2, FL.sSet_a, FL.sSetO_a, FL.sAsg_a, FL.sApp_a, FL.sExt_a, FL.ePop_a, FL.sStore_a, FL.aSub_a, FL.ownAt_a, FL.putAt_a, FL.sPar_a, FL.mNil_a, FL.mV_a, FL.mO_a, FL.setAll_c, FL.setAll_n, FL.eDm_a, FL.eCall_a, FL.eCallP_a, FL.eCallO_a, FL.eCallOP_a, FL.arrB_a, FL.iEn_a, FL.turn_a, FL.fnB_a, FL.fnL_a, FL.rep_s, FL.rep_z, FL.few_z, FL.few_1, FL.few_2, FL.few_3, FL.gAdd_i, FL.gSub_i, FL.cLt_i, FL.cLe_i, FL.cGt_i, FL.cGe_i, FL.cEq_i, FL.cNe_i, FL.cEq_str, FL.cNe_str, FL.eqv_b, FL.cEq_b, FL.truth_b, FL.truth_i, FL.truth_l, FL.truth_t, FL.gLen_l, FL.gLen_t, FL.gInt_i, FL.gTup_l, FL.gTup_t, FL.items_l, FL.items_t, FL.cIs_b, FL.gIx_l0, FL.gIx_l1, FL.gIx_l2, FL.gIx_t0, FL.gIx_t1, FL.gIx_t2, FL.cLt_n, FL.cLt_ni, FL.cLt_in, FL.cLe_n, FL.cLe_ni, FL.cLe_in, FL.cGt_n, FL.cGt_ni, FL.cGe_n, FL.cGe_ni, FL.cEq_n, FL.cEq_ni, FL.cEq_in, FL.cNe_n, FL.cNe_ni, FL.gAdd_n, FL.gAdd_ni, FL.gAdd_in, FL.gSub_ni, FL.gSub_nn, FL.gSub_in, FL.gInt_n, FL.cEq_tN, FL.cNe_tN, FL.cEq_lN, FL.sh_nilL, FL.sh_nilT, FL.gLen_tN, FL.gLen_tT, FL.gIx_tN, FL.gIx_tT, FL.items_tN, FL.items_tT, FL.ty_i, FL.ty_n, FL.ty_tN, FL.ty_tT, FL.kit_ii, FL.kit_ib, FL.kit_tt, FL.kit_lt, FL.same_tN, FL.same_l, FL.arr_n, FL.arr_c, List.getElem?_cons_zero, List.getElem?_cons_succ, List.set_cons_zero, List.set_cons_succ, List.length_cons, List.length_nil, List.map_cons, List.map_nil, List.cons_append, List.nil_append, Bool.not_true, Bool.not_false, if_true, if_false, Bool.false_eq_true, FL.R.bind, eq_self, and_self, decide_true, decide_false, Option.bind_some, Option.map_some, List.length_map, FL.wipeE, FL.backE, h0, gMod_i (show (20011 : Int) ≠ 0 by decide), gMod_i (show (2147483563 : Int) ≠ 0 by decide), gMod_i hm0, gMul_i (hm _), gMul_i (hm2 _), gDiv_i (hd _), g1, g2, g3, decide_false]
theorem draw_nat {ps : List Int} {m : Nat} (h : PoolOk ps) (h1 : 1 ≤ m) (h2 : m < 1073741824) : ∃ k ps', k < m ∧ PoolOk ps' ∧ f__law_draw [poolD, nD m] (some ps) = .ok (nD k) (some ps') := by
  obtain ⟨k, ps', q1, q2, q3, q4⟩ := draw_ok (m := (m : Int)) h (by omega) (by omega)
  obtain ⟨j, rfl⟩ := Int.eq_ofNat_of_zero_le q1
  exact ⟨j, ps', by omega, q3, q4⟩
theorem add_t {f : List Nat} {x : Nat} (h : f.length + 1 ≤ 16777216) : gAdd (tN f) (.tuple [nD x]) = some (tN (f ++ [x])) := by
  have := add_tt (a := f.map nD) (b := [nD x]) (by simpa using h)
  simpa [tN] using this
theorem add_tT {f : List (List Nat)} {x : List Nat} (h : f.length + 1 ≤ 16777216) : gAdd (tTT f) (.tuple [tN x]) = some (tTT (f ++ [x])) := by
  have := add_tt (a := f.map tN) (b := [tN x]) (by simpa using h)
  simpa [tTT] using this
theorem get_nD {l : List Nat} {k : Nat} {d : D} (h : (l.map nD)[k]? = some d) : ∃ hk : k < l.length, d = nD l[k] := by
  have hk : k < l.length := by have := (List.getElem?_eq_some_iff.mp h).1; simpa using this
  rw [List.getElem?_map, List.getElem?_eq_getElem hk] at h
  exact ⟨hk, (Option.some.inj h).symm⟩
end M
set_option maxHeartbeats 4000000
/-! k03: is_book, at any value. -/
namespace M
open PySem PySem.Spec PyProof.Rows L2 FL
def pers (n : Nat) : D → Bool
  | .int k => decide (0 ≤ k) && decide (k ≤ (n : Int) - 1)
  | _ => false
/-- an item of a row: a person, not the own one -/
def item (n i : Nat) : D → Bool
  | .int k => decide (0 ≤ k) && decide (k ≤ (n : Int) - 1) && !decide (k = (i : Int))
  | _ => false
def toI : D → Int
  | .int k => k
  | _ => 0
def goodB (n i : Nat) : D → Bool
  | .tuple es => es.all (item n i) && decide ((es.map toI).Nodup)
  | _ => false
def Good (n i : Nat) (d : D) : Prop := ∃ l : List Nat, d = tN l ∧ l.Nodup ∧ ∀ x ∈ l, x < n ∧ x ≠ i
theorem item_n {n i x : Nat} : item n i (nD x) = true ↔ x < n ∧ x ≠ i := by
  show (decide ((0 : Int) ≤ (x : Int)) && decide ((x : Int) ≤ (n : Int) - 1) && !decide ((x : Int) = (i : Int))) = true ↔ _
  rw [Bool.and_eq_true, Bool.and_eq_true, Bool.not_eq_true', decide_eq_true_iff, decide_eq_true_iff, decide_eq_false_iff_not]
  omega
theorem items_nat {n i : Nat} : ∀ es : List D, (∀ e ∈ es, item n i e = true) → ∃ l : List Nat, es = l.map nD ∧ ∀ x ∈ l, x < n ∧ x ≠ i
  | [], _ => ⟨[], rfl, fun x hx => by simp at hx⟩
  | e :: es, h => by
    obtain ⟨l, rfl, hl⟩ := items_nat es fun x hx => h x (List.mem_cons_of_mem _ hx)
    have he := h e List.mem_cons_self
    cases e with
    | int k =>
      have h0 : 0 ≤ k := by
        unfold item at he
        rw [Bool.and_eq_true, Bool.and_eq_true, decide_eq_true_iff] at he
        exact he.1.1
      obtain ⟨x, rfl⟩ := Int.eq_ofNat_of_zero_le h0
      refine ⟨x :: l, rfl, fun y hy => ?_⟩
      rcases List.mem_cons.mp hy with e | hy
      · subst e; exact item_n.mp he
      · exact hl y hy
    | _ => cases he
theorem toI_nD (l : List Nat) : (l.map nD).map toI = l.map fun k : Nat => (k : Int) := by rw [List.map_map]; rfl
theorem goodB_iff {n i : Nat} {d : D} : goodB n i d = true ↔ Good n i d := by
  constructor
  · intro h
    cases d with
    | tuple es =>
      unfold goodB at h
      rw [Bool.and_eq_true, List.all_eq_true, decide_eq_true_iff] at h
      obtain ⟨l, rfl, hl⟩ := items_nat es h.1
      rw [toI_nD, nodup_cast] at h
      exact ⟨l, rfl, h.2, hl⟩
    | _ => cases h
  · rintro ⟨l, rfl, h1, h2⟩
    show ((l.map nD).all (item n i) && decide (((l.map nD).map toI).Nodup)) = true
    rw [Bool.and_eq_true, List.all_eq_true, decide_eq_true_iff, toI_nD, nodup_cast]
    refine ⟨fun e he => ?_, h1⟩
    obtain ⟨x, hx, rfl⟩ := List.mem_map.mp he
    exact item_n.mpr (h2 x hx)
structure Itm (e : D) : Prop where
  ty : (tyD e).isSome = true
  lay : e.canLay0 = true
  dep : e.depth ≤ 2
structure RowC (d : D) : Prop where
  ty : (tyD d).isSome = true
  its : ∀ es, d = .tuple es → es.length ≤ 200 ∧ ∀ e ∈ es, Itm e
structure Val (v : D) : Prop where
  ty : (tyD v).isSome = true
  its : ∀ ds, v = .tuple ds → ds.length ≤ 200 ∧ ∀ d ∈ ds, RowC d
structure BkOk (n : Nat) (ls : List (List Nat)) : Prop where
  len : ls.length = n
  lo : 1 ≤ n
  hi : n ≤ 7
  nd : ∀ i, i < n → (ls.getD i []).Nodup
  inn : ∀ i, i < n → ∀ x ∈ ls.getD i [], x < n ∧ x ≠ i
  sym : ∀ i, i < n → ∀ x ∈ ls.getD i [], i ∈ ls.getD x []
def isBk (v : D) : Prop := ∃ ls, v = tTT ls ∧ BkOk ls.length ls
/-! ### rows -/
theorem whole_d {d : D} (h : (tyD d).isSome = true) : f_is_whole [d] none = .ok (.bool (isI d)) none := by
  cases d with
  | dict kvs =>
    cases kvs with
    | nil => rfl
    | cons _ _ => simp [tyD] at h
  | _ => rfl
theorem person_d {n : Nat} {d : D} (h : (tyD d).isSome = true) : f_is_person [nD n, d] none = .ok (.bool (pers n d)) none := by
  have key : ∀ F : Fn, F [d, .int 0, .int ((n : Int) - 1)] none = .ok (.bool (pers n d)) none → fnB 2 2 (sRet (eCall F (eCons (eV 1) (eCons (eC (.int 0)) (eCons (e2 gSub (eV 0) (eC (.int 1))) (eNil)))))) [nD n, d] none = .ok (.bool (pers n d)) none := by
    intro F hF
    simp (config := { implicitDefEqProofs := false }) only [FL.lift_a, FL.eC_a, FL.eV_a, FL.eN_a, FL.eP_p, FL.rd_d, FL.rd_i, FL.rd_p, FL.toSrc_a, FL.e1_a, FL.e2_a, FL.eCmp_a, FL.eBool_a, FL.eChain_a, FL.eChain_t, FL.pure_a, FL.eTruth_a, FL.bNot_a, FL.bAnd_a, FL.bOr_a, FL.bYes_a, FL.eIf_a, FL.vAnd_a, FL.vOr_a, FL.asBool_a, FL.eNil_a, FL.eCons_a, FL.eTup_a, FL.eLst_a, FL.eL_a, FL.eIx_a, FL.eSl_a, FL.pNo_a, FL.pSo_a, FL.asInt_a, FL.sNil_a, FL.sCons_a, FL.rdA_n, FL.rdA_c, FL.eCall1_a, FL.eCallL_a, FL.eIsi_a, FL.eM1_a, FL.sSeq_a, FL.sSeqL_a, FL.sIfL_a, FL.sNx_a, FL.sBk_a, FL.sCt_a, FL.sRet_a, FL.sRetN_a, FL.sDrop_a, FL.sIf_a, FL.aN_a, FL.aNil_a, FL.aCons_a, FL.aTup_a, FL.aPool_0, FL.aPool_1, FL.aPool_2, FL.sSet_a, FL.sSetO_a, FL.sAsg_a, FL.sApp_a, FL.sExt_a, FL.ePop_a, FL.sStore_a, FL.aSub_a, FL.ownAt_a, FL.putAt_a, FL.sPar_a, FL.mNil_a, FL.mV_a, FL.mO_a, FL.setAll_c, FL.setAll_n, FL.eDm_a, FL.eCall_a, FL.eCallP_a, FL.eCallO_a, FL.eCallOP_a, FL.arrB_a, FL.iEn_a, FL.turn_a, FL.fnB_a, FL.fnL_a, FL.rep_s, FL.rep_z, FL.few_z, FL.few_1, FL.few_2, FL.few_3, FL.gAdd_i, FL.gSub_i, FL.cLt_i, FL.cLe_i, FL.cGt_i, FL.cGe_i, FL.cEq_i, FL.cNe_i, FL.cEq_str, FL.cNe_str, FL.eqv_b, FL.cEq_b, FL.truth_b, FL.truth_i, FL.truth_l, FL.truth_t, FL.gLen_l, FL.gLen_t, FL.gInt_i, FL.gTup_l, FL.gTup_t, FL.items_l, FL.items_t, FL.cIs_b, FL.gIx_l0, FL.gIx_l1, FL.gIx_l2, FL.gIx_t0, FL.gIx_t1, FL.gIx_t2, FL.cLt_n, FL.cLt_ni, FL.cLt_in, FL.cLe_n, FL.cLe_ni, FL.cLe_in, FL.cGt_n, FL.cGt_ni, FL.cGe_n, FL.cGe_ni, FL.cEq_n, FL.cEq_ni, FL.cEq_in, FL.cNe_n, FL.cNe_ni, FL.gAdd_n, FL.gAdd_ni, FL.gAdd_in, FL.gSub_ni, FL.gSub_nn, FL.gSub_in, FL.gInt_n, FL.cEq_tN, FL.cNe_tN, FL.cEq_lN, FL.sh_nilL, FL.sh_nilT, FL.gLen_tN, FL.gLen_tT, FL.gIx_tN, FL.gIx_tT, FL.items_tN, FL.items_tT, FL.ty_i, FL.ty_n, FL.ty_tN, FL.ty_tT, FL.kit_ii, FL.kit_ib, FL.kit_tt, FL.kit_lt, FL.same_tN, FL.same_l, FL.arr_n, FL.arr_c, List.getElem?_cons_zero, List.getElem?_cons_succ, List.set_cons_zero, List.set_cons_succ, List.length_cons, List.length_nil, List.map_cons, List.map_nil, List.cons_append, List.nil_append, Bool.not_true, Bool.not_false, if_true, if_false, Bool.false_eq_true, FL.R.bind, eq_self, and_self, decide_true, decide_false, Option.bind_some, Option.map_some, List.length_map, FL.wipeE, FL.backE, hF]
  refine key _ ?_
  have key2 : ∀ F : Fn, F [d] none = .ok (.bool (isI d)) none → fnB 3 3 (sRet (vAnd (eCall F (eCons (eV 0) (eNil))) (eBool (eChain cLe cLe (eV 1) (eV 0) (eV 2))))) [d, .int 0, .int ((n : Int) - 1)] none = .ok (.bool (pers n d)) none := by
    intro F hF
    cases d with
    | int k =>
      have hF' : F [.int k] none = .ok (.bool true) none := hF
      by_cases c1 : 0 ≤ k
      · by_cases c2 : k ≤ (n : Int) - 1
        · simp (config := { implicitDefEqProofs := false }) only [FL.lift_a, FL.eC_a, FL.eV_a, FL.eN_a, FL.eP_p, FL.rd_d, FL.rd_i, FL.rd_p, FL.toSrc_a, FL.e1_a, FL.e2_a, FL.eCmp_a, FL.eBool_a, FL.eChain_a, FL.eChain_t, FL.pure_a, FL.eTruth_a, FL.bNot_a, FL.bAnd_a, FL.bOr_a, FL.bYes_a, FL.eIf_a, FL.vAnd_a, FL.vOr_a, FL.asBool_a, FL.eNil_a, FL.eCons_a, FL.eTup_a, FL.eLst_a, FL.eL_a, FL.eIx_a, FL.eSl_a, FL.pNo_a, FL.pSo_a, FL.asInt_a, FL.sNil_a, FL.sCons_a, FL.rdA_n, FL.rdA_c, FL.eCall1_a, FL.eCallL_a, FL.eIsi_a, FL.eM1_a, FL.sSeq_a, FL.sSeqL_a, FL.sIfL_a, FL.sNx_a, FL.sBk_a, FL.sCt_a, FL.sRet_a, FL.sRetN_a, FL.sDrop_a, FL.sIf_a, FL.aN_a, FL.aNil_a, FL.aCons_a, FL.aTup_a, FL.aPool_0, FL.aPool_1, FL.aPool_2, FL.sSet_a, FL.sSetO_a, FL.sAsg_a, FL.sApp_a, FL.sExt_a, FL.ePop_a, FL.sStore_a, FL.aSub_a, FL.ownAt_a, FL.putAt_a, FL.sPar_a, FL.mNil_a, FL.mV_a, FL.mO_a, FL.setAll_c, FL.setAll_n, FL.eDm_a, FL.eCall_a, FL.eCallP_a, FL.eCallO_a, FL.eCallOP_a, FL.arrB_a, FL.iEn_a, FL.turn_a, FL.fnB_a, FL.fnL_a, FL.rep_s, FL.rep_z, FL.few_z, FL.few_1, FL.few_2, FL.few_3, FL.gAdd_i, FL.gSub_i, FL.cLt_i, FL.cLe_i, FL.cGt_i, FL.cGe_i, FL.cEq_i, FL.cNe_i, FL.cEq_str, FL.cNe_str, FL.eqv_b, FL.cEq_b, FL.truth_b, FL.truth_i, FL.truth_l, FL.truth_t, FL.gLen_l, FL.gLen_t, FL.gInt_i, FL.gTup_l, FL.gTup_t, FL.items_l, FL.items_t, FL.cIs_b, FL.gIx_l0, FL.gIx_l1, FL.gIx_l2, FL.gIx_t0, FL.gIx_t1, FL.gIx_t2, FL.cLt_n, FL.cLt_ni, FL.cLt_in, FL.cLe_n, FL.cLe_ni, FL.cLe_in, FL.cGt_n, FL.cGt_ni, FL.cGe_n, FL.cGe_ni, FL.cEq_n, FL.cEq_ni, FL.cEq_in, FL.cNe_n, FL.cNe_ni, FL.gAdd_n, FL.gAdd_ni, FL.gAdd_in, FL.gSub_ni, FL.gSub_nn, FL.gSub_in, FL.gInt_n, FL.cEq_tN, FL.cNe_tN, FL.cEq_lN, FL.sh_nilL, FL.sh_nilT, FL.gLen_tN, FL.gLen_tT, FL.gIx_tN, FL.gIx_tT, FL.items_tN, FL.items_tT, FL.ty_i, FL.ty_n, FL.ty_tN, FL.ty_tT, FL.kit_ii, FL.kit_ib, FL.kit_tt, FL.kit_lt, FL.same_tN, FL.same_l, FL.arr_n, FL.arr_c, List.getElem?_cons_zero, List.getElem?_cons_succ, List.set_cons_zero, List.set_cons_succ, List.length_cons, List.length_nil, List.map_cons, List.map_nil, List.cons_append, List.nil_append, Bool.not_true, Bool.not_false, if_true, if_false, Bool.false_eq_true, FL.R.bind, eq_self, and_self, decide_true, decide_false, Option.bind_some, Option.map_some, List.length_map, FL.wipeE, FL.backE, hF', c1, c2]
          simp [pers, c1, c2]
        · simp (config := { implicitDefEqProofs := false }) only [FL.lift_a, FL.eC_a, FL.eV_a, FL.eN_a, FL.eP_p, FL.rd_d, FL.rd_i, FL.rd_p, FL.toSrc_a, FL.e1_a, FL.e2_a, FL.eCmp_a, FL.eBool_a, FL.eChain_a, FL.eChain_t, FL.pure_a, FL.eTruth_a, FL.bNot_a, FL.bAnd_a, FL.bOr_a, FL.bYes_a, FL.eIf_a, FL.vAnd_a, FL.vOr_a, FL.asBool_a, FL.eNil_a, FL.eCons_a, FL.eTup_a, FL.eLst_a, FL.eL_a, FL.eIx_a, FL.eSl_a, FL.pNo_a, FL.pSo_a, FL.asInt_a, FL.sNil_a, FL.sCons_a, FL.rdA_n, FL.rdA_c, FL.eCall1_a, FL.eCallL_a, FL.eIsi_a, FL.eM1_a, FL.sSeq_a, FL.sSeqL_a, FL.sIfL_a, FL.sNx_a, FL.sBk_a, FL.sCt_a, FL.sRet_a, FL.sRetN_a, FL.sDrop_a, FL.sIf_a, FL.aN_a, FL.aNil_a, FL.aCons_a, FL.aTup_a, FL.aPool_0, FL.aPool_1, FL.aPool_2, FL.sSet_a, FL.sSetO_a, FL.sAsg_a, FL.sApp_a, FL.sExt_a, FL.ePop_a, FL.sStore_a, FL.aSub_a, FL.ownAt_a, FL.putAt_a, FL.sPar_a, FL.mNil_a, FL.mV_a, FL.mO_a, FL.setAll_c, FL.setAll_n, FL.eDm_a, FL.eCall_a, FL.eCallP_a, FL.eCallO_a, FL.eCallOP_a, FL.arrB_a, FL.iEn_a, FL.turn_a, FL.fnB_a, FL.fnL_a, FL.rep_s, FL.rep_z, FL.few_z, FL.few_1, FL.few_2, FL.few_3, FL.gAdd_i, FL.gSub_i, FL.cLt_i, FL.cLe_i, FL.cGt_i, FL.cGe_i, FL.cEq_i, FL.cNe_i, FL.cEq_str, FL.cNe_str, FL.eqv_b, FL.cEq_b, FL.truth_b, FL.truth_i, FL.truth_l, FL.truth_t, FL.gLen_l, FL.gLen_t, FL.gInt_i, FL.gTup_l, FL.gTup_t, FL.items_l, FL.items_t, FL.cIs_b, FL.gIx_l0, FL.gIx_l1, FL.gIx_l2, FL.gIx_t0, FL.gIx_t1, FL.gIx_t2, FL.cLt_n, FL.cLt_ni, FL.cLt_in, FL.cLe_n, FL.cLe_ni, FL.cLe_in, FL.cGt_n, FL.cGt_ni, FL.cGe_n, FL.cGe_ni, FL.cEq_n, FL.cEq_ni, FL.cEq_in, FL.cNe_n, FL.cNe_ni, FL.gAdd_n, FL.gAdd_ni, FL.gAdd_in, FL.gSub_ni, FL.gSub_nn, FL.gSub_in, FL.gInt_n, FL.cEq_tN, FL.cNe_tN, FL.cEq_lN, FL.sh_nilL, FL.sh_nilT, FL.gLen_tN, FL.gLen_tT, FL.gIx_tN, FL.gIx_tT, FL.items_tN, FL.items_tT, FL.ty_i, FL.ty_n, FL.ty_tN, FL.ty_tT, FL.kit_ii, FL.kit_ib, FL.kit_tt, FL.kit_lt, FL.same_tN, FL.same_l, FL.arr_n, FL.arr_c, List.getElem?_cons_zero, List.getElem?_cons_succ, List.set_cons_zero, List.set_cons_succ, List.length_cons, List.length_nil, List.map_cons, List.map_nil, List.cons_append, List.nil_append, Bool.not_true, Bool.not_false, if_true, if_false, Bool.false_eq_true, FL.R.bind, eq_self, and_self, decide_true, decide_false, Option.bind_some, Option.map_some, List.length_map, FL.wipeE, FL.backE, hF', c1, c2]
          simp [pers, c1, c2]
      · simp (config := { implicitDefEqProofs := false }) only [FL.lift_a, FL.eC_a, FL.eV_a, FL.eN_a, FL.eP_p, FL.rd_d, FL.rd_i, FL.rd_p, FL.toSrc_a, FL.e1_a, FL.e2_a, FL.eCmp_a, FL.eBool_a, FL.eChain_a, FL.eChain_t, FL.pure_a, FL.eTruth_a, FL.bNot_a, FL.bAnd_a, FL.bOr_a, FL.bYes_a, FL.eIf_a, FL.vAnd_a, FL.vOr_a, FL.asBool_a, FL.eNil_a, FL.eCons_a, FL.eTup_a, FL.eLst_a, FL.eL_a, FL.eIx_a, FL.eSl_a, FL.pNo_a, FL.pSo_a, FL.asInt_a, FL.sNil_a, FL.sCons_a, FL.rdA_n, FL.rdA_c, FL.eCall1_a, FL.eCallL_a, FL.eIsi_a, FL.eM1_a, FL.sSeq_a, FL.sSeqL_a, FL.sIfL_a, FL.sNx_a, FL.sBk_a, FL.sCt_a, FL.sRet_a, FL.sRetN_a, FL.sDrop_a, FL.sIf_a, FL.aN_a, FL.aNil_a, FL.aCons_a, FL.aTup_a, FL.aPool_0, FL.aPool_1, FL.aPool_2, FL.sSet_a, FL.sSetO_a, FL.sAsg_a, FL.sApp_a, FL.sExt_a, FL.ePop_a, FL.sStore_a, FL.aSub_a, FL.ownAt_a, FL.putAt_a, FL.sPar_a, FL.mNil_a, FL.mV_a, FL.mO_a, FL.setAll_c, FL.setAll_n, FL.eDm_a, FL.eCall_a, FL.eCallP_a, FL.eCallO_a, FL.eCallOP_a, FL.arrB_a, FL.iEn_a, FL.turn_a, FL.fnB_a, FL.fnL_a, FL.rep_s, FL.rep_z, FL.few_z, FL.few_1, FL.few_2, FL.few_3, FL.gAdd_i, FL.gSub_i, FL.cLt_i, FL.cLe_i, FL.cGt_i, FL.cGe_i, FL.cEq_i, FL.cNe_i, FL.cEq_str, FL.cNe_str, FL.eqv_b, FL.cEq_b, FL.truth_b, FL.truth_i, FL.truth_l, FL.truth_t, FL.gLen_l, FL.gLen_t, FL.gInt_i, FL.gTup_l, FL.gTup_t, FL.items_l, FL.items_t, FL.cIs_b, FL.gIx_l0, FL.gIx_l1, FL.gIx_l2, FL.gIx_t0, FL.gIx_t1, FL.gIx_t2, FL.cLt_n, FL.cLt_ni, FL.cLt_in, FL.cLe_n, FL.cLe_ni, FL.cLe_in, FL.cGt_n, FL.cGt_ni, FL.cGe_n, FL.cGe_ni, FL.cEq_n, FL.cEq_ni, FL.cEq_in, FL.cNe_n, FL.cNe_ni, FL.gAdd_n, FL.gAdd_ni, FL.gAdd_in, FL.gSub_ni, FL.gSub_nn, FL.gSub_in, FL.gInt_n, FL.cEq_tN, FL.cNe_tN, FL.cEq_lN, FL.sh_nilL, FL.sh_nilT, FL.gLen_tN, FL.gLen_tT, FL.gIx_tN, FL.gIx_tT, FL.items_tN, FL.items_tT, FL.ty_i, FL.ty_n, FL.ty_tN, FL.ty_tT, FL.kit_ii, FL.kit_ib, FL.kit_tt, FL.kit_lt, FL.same_tN, FL.same_l, FL.arr_n, FL.arr_c, List.getElem?_cons_zero, List.getElem?_cons_succ, List.set_cons_zero, List.set_cons_succ, List.length_cons, List.length_nil, List.map_cons, List.map_nil, List.cons_append, List.nil_append, Bool.not_true, Bool.not_false, if_true, if_false, Bool.false_eq_true, FL.R.bind, eq_self, and_self, decide_true, decide_false, Option.bind_some, Option.map_some, List.length_map, FL.wipeE, FL.backE, hF', c1]
        simp [pers, c1]
    | _ =>
      simp only [isI] at hF
      simp (config := { implicitDefEqProofs := false }) only [FL.lift_a, FL.eC_a, FL.eV_a, FL.eN_a, FL.eP_p, FL.rd_d, FL.rd_i, FL.rd_p, FL.toSrc_a, FL.e1_a, FL.e2_a, FL.eCmp_a, FL.eBool_a, FL.eChain_a, FL.eChain_t, FL.pure_a, FL.eTruth_a, FL.bNot_a, FL.bAnd_a, FL.bOr_a, FL.bYes_a, FL.eIf_a, FL.vAnd_a, FL.vOr_a, FL.asBool_a, FL.eNil_a, FL.eCons_a, FL.eTup_a, FL.eLst_a, FL.eL_a, FL.eIx_a, FL.eSl_a, FL.pNo_a, FL.pSo_a, FL.asInt_a, FL.sNil_a, FL.sCons_a, FL.rdA_n, FL.rdA_c, FL.eCall1_a, FL.eCallL_a, FL.eIsi_a, FL.eM1_a, FL.sSeq_a, FL.sSeqL_a, FL.sIfL_a, FL.sNx_a, FL.sBk_a, FL.sCt_a, FL.sRet_a, FL.sRetN_a, FL.sDrop_a, FL.sIf_a, FL.aN_a, FL.aNil_a, FL.aCons_a, FL.aTup_a, FL.aPool_0, FL.aPool_1, FL.aPool_2, FL.sSet_a, FL.sSetO_a, FL.sAsg_a, FL.sApp_a, FL.sExt_a, FL.ePop_a, FL.sStore_a, FL.aSub_a, FL.ownAt_a, FL.putAt_a, FL.sPar_a, FL.mNil_a, FL.mV_a, FL.mO_a, FL.setAll_c, FL.setAll_n, FL.eDm_a, FL.eCall_a, FL.eCallP_a, FL.eCallO_a, FL.eCallOP_a, FL.arrB_a, FL.iEn_a, FL.turn_a, FL.fnB_a, FL.fnL_a, FL.rep_s, FL.rep_z, FL.few_z, FL.few_1, FL.few_2, FL.few_3, FL.gAdd_i, FL.gSub_i, FL.cLt_i, FL.cLe_i, FL.cGt_i, FL.cGe_i, FL.cEq_i, FL.cNe_i, FL.cEq_str, FL.cNe_str, FL.eqv_b, FL.cEq_b, FL.truth_b, FL.truth_i, FL.truth_l, FL.truth_t, FL.gLen_l, FL.gLen_t, FL.gInt_i, FL.gTup_l, FL.gTup_t, FL.items_l, FL.items_t, FL.cIs_b, FL.gIx_l0, FL.gIx_l1, FL.gIx_l2, FL.gIx_t0, FL.gIx_t1, FL.gIx_t2, FL.cLt_n, FL.cLt_ni, FL.cLt_in, FL.cLe_n, FL.cLe_ni, FL.cLe_in, FL.cGt_n, FL.cGt_ni, FL.cGe_n, FL.cGe_ni, FL.cEq_n, FL.cEq_ni, FL.cEq_in, FL.cNe_n, FL.cNe_ni, FL.gAdd_n, FL.gAdd_ni, FL.gAdd_in, FL.gSub_ni, FL.gSub_nn, FL.gSub_in, FL.gInt_n, FL.cEq_tN, FL.cNe_tN, FL.cEq_lN, FL.sh_nilL, FL.sh_nilT, FL.gLen_tN, FL.gLen_tT, FL.gIx_tN, FL.gIx_tT, FL.items_tN, FL.items_tT, FL.ty_i, FL.ty_n, FL.ty_tN, FL.ty_tT, FL.kit_ii, FL.kit_ib, FL.kit_tt, FL.kit_lt, FL.same_tN, FL.same_l, FL.arr_n, FL.arr_c, List.getElem?_cons_zero, List.getElem?_cons_succ, List.set_cons_zero, List.set_cons_succ, List.length_cons, List.length_nil, List.map_cons, List.map_nil, List.cons_append, List.nil_append, Bool.not_true, Bool.not_false, if_true, if_false, Bool.false_eq_true, FL.R.bind, eq_self, and_self, decide_true, decide_false, Option.bind_some, Option.map_some, List.length_map, FL.wipeE, FL.backE, hF, pers]
  exact key2 _ (whole_d h)
theorem items_ok {n i : Nat} {es : List D} (hl : es.length ≤ 200) (h : ∀ e ∈ es, Itm e) : eLc (iItems (eV 2)) [3] (aN 3) (bYes) (vAnd (eCall f_is_person (eCons (eV 0) (eCons (eV 3) (eNil)))) (eBool (eCmp cNe (eN 3) (eN 1)))) ⟨[.v (nD n), .v (nD i), .v (.tuple es), .no, .no], none⟩ = .ok (es.map fun e => .bool (item n i e)) ⟨[.v (nD n), .v (nD i), .v (.tuple es), .no, .no], none⟩ := by
  rw [← fm_some]
  have hf : iItems (eV 2) ⟨[.v (nD n), .v (nD i), .v (.tuple es), .no, .no], none⟩ = .ok (es.map id) ⟨[.v (nD n), .v (nD i), .v (.tuple es), .no, .no], none⟩ := by
    rw [List.map_id]
    exact iItems_t rfl
  refine eLc_filterA id _ _ hf (fun e he => ⟨[.v (nD n), .v (nD i), .v (.tuple es), .v e, .no], ?_, rfl⟩) (by rw [sizeLine_eq]; omega)
  have key : ∀ F : Fn, F [nD n, e] none = .ok (.bool (pers n e)) none → turnB (aN 3) bYes (vAnd (eCall F (eCons (eV 0) (eCons (eV 3) (eNil)))) (eBool (eCmp cNe (eN 3) (eN 1)))) e ⟨wipeE [.v (nD n), .v (nD i), .v (.tuple es), .no, .no] [3], none⟩ = .ok (some (.bool (item n i e))) ⟨[.v (nD n), .v (nD i), .v (.tuple es), .v e, .no], none⟩ := by
    intro F hF
    cases e with
    | int k =>
      cases c : pers n (.int k) with
      | true =>
        rw [c] at hF
        have hn : cNe (.int k) (nD i) = some (!decide (k = (i : Int))) := cNe_i
        simp (config := { implicitDefEqProofs := false }) only [FL.lift_a, FL.eC_a, FL.eV_a, FL.eN_a, FL.eP_p, FL.rd_d, FL.rd_i, FL.rd_p, FL.toSrc_a, FL.e1_a, FL.e2_a, FL.eCmp_a, FL.eBool_a, FL.eChain_a, FL.eChain_t, FL.pure_a, FL.eTruth_a, FL.bNot_a, FL.bAnd_a, FL.bOr_a, FL.bYes_a, FL.eIf_a, FL.vAnd_a, FL.vOr_a, FL.asBool_a, FL.eNil_a, FL.eCons_a, FL.eTup_a, FL.eLst_a, FL.eL_a, FL.eIx_a, FL.eSl_a, FL.pNo_a, FL.pSo_a, FL.asInt_a, FL.sNil_a, FL.sCons_a, FL.rdA_n, FL.rdA_c, FL.eCall1_a, FL.eCallL_a, FL.eIsi_a, FL.eM1_a, FL.sSeq_a, FL.sSeqL_a, FL.sIfL_a, FL.sNx_a, FL.sBk_a, FL.sCt_a, FL.sRet_a, FL.sRetN_a, FL.sDrop_a, FL.sIf_a, FL.aN_a, FL.aNil_a, FL.aCons_a, FL.aTup_a, FL.aPool_0, FL.aPool_1, FL.aPool_2, FL.sSet_a, FL.sSetO_a, FL.sAsg_a, FL.sApp_a, FL.sExt_a, FL.ePop_a, FL.sStore_a, FL.aSub_a, FL.ownAt_a, FL.putAt_a, FL.sPar_a, FL.mNil_a, FL.mV_a, FL.mO_a, FL.setAll_c, FL.setAll_n, FL.eDm_a, FL.eCall_a, FL.eCallP_a, FL.eCallO_a, FL.eCallOP_a, FL.arrB_a, FL.iEn_a, FL.turn_a, FL.fnB_a, FL.fnL_a, FL.rep_s, FL.rep_z, FL.few_z, FL.few_1, FL.few_2, FL.few_3, FL.gAdd_i, FL.gSub_i, FL.cLt_i, FL.cLe_i, FL.cGt_i, FL.cGe_i, FL.cEq_i, FL.cNe_i, FL.cEq_str, FL.cNe_str, FL.eqv_b, FL.cEq_b, FL.truth_b, FL.truth_i, FL.truth_l, FL.truth_t, FL.gLen_l, FL.gLen_t, FL.gInt_i, FL.gTup_l, FL.gTup_t, FL.items_l, FL.items_t, FL.cIs_b, FL.gIx_l0, FL.gIx_l1, FL.gIx_l2, FL.gIx_t0, FL.gIx_t1, FL.gIx_t2, FL.cLt_n, FL.cLt_ni, FL.cLt_in, FL.cLe_n, FL.cLe_ni, FL.cLe_in, FL.cGt_n, FL.cGt_ni, FL.cGe_n, FL.cGe_ni, FL.cEq_n, FL.cEq_ni, FL.cEq_in, FL.cNe_n, FL.cNe_ni, FL.gAdd_n, FL.gAdd_ni, FL.gAdd_in, FL.gSub_ni, FL.gSub_nn, FL.gSub_in, FL.gInt_n, FL.cEq_tN, FL.cNe_tN, FL.cEq_lN, FL.sh_nilL, FL.sh_nilT, FL.gLen_tN, FL.gLen_tT, FL.gIx_tN, FL.gIx_tT, FL.items_tN, FL.items_tT, FL.ty_i, FL.ty_n, FL.ty_tN, FL.ty_tT, FL.kit_ii, FL.kit_ib, FL.kit_tt, FL.kit_lt, FL.same_tN, FL.same_l, FL.arr_n, FL.arr_c, List.getElem?_cons_zero, List.getElem?_cons_succ, List.set_cons_zero, List.set_cons_succ, List.length_cons, List.length_nil, List.map_cons, List.map_nil, List.cons_append, List.nil_append, Bool.not_true, Bool.not_false, if_true, if_false, Bool.false_eq_true, FL.R.bind, eq_self, and_self, decide_true, decide_false, Option.bind_some, Option.map_some, List.length_map, FL.wipeE, FL.backE, hF, hn]
        have e2 : item n i (.int k) = (pers n (.int k) && !decide (k = (i : Int))) := rfl
        rw [e2, c, Bool.true_and]
      | false =>
        rw [c] at hF
        simp (config := { implicitDefEqProofs := false }) only [FL.lift_a, FL.eC_a, FL.eV_a, FL.eN_a, FL.eP_p, FL.rd_d, FL.rd_i, FL.rd_p, FL.toSrc_a, FL.e1_a, FL.e2_a, FL.eCmp_a, FL.eBool_a, FL.eChain_a, FL.eChain_t, FL.pure_a, FL.eTruth_a, FL.bNot_a, FL.bAnd_a, FL.bOr_a, FL.bYes_a, FL.eIf_a, FL.vAnd_a, FL.vOr_a, FL.asBool_a, FL.eNil_a, FL.eCons_a, FL.eTup_a, FL.eLst_a, FL.eL_a, FL.eIx_a, FL.eSl_a, FL.pNo_a, FL.pSo_a, FL.asInt_a, FL.sNil_a, FL.sCons_a, FL.rdA_n, FL.rdA_c, FL.eCall1_a, FL.eCallL_a, FL.eIsi_a, FL.eM1_a, FL.sSeq_a, FL.sSeqL_a, FL.sIfL_a, FL.sNx_a, FL.sBk_a, FL.sCt_a, FL.sRet_a, FL.sRetN_a, FL.sDrop_a, FL.sIf_a, FL.aN_a, FL.aNil_a, FL.aCons_a, FL.aTup_a, FL.aPool_0, FL.aPool_1, FL.aPool_2, FL.sSet_a, FL.sSetO_a, FL.sAsg_a, FL.sApp_a, FL.sExt_a, FL.ePop_a, FL.sStore_a, FL.aSub_a, FL.ownAt_a, FL.putAt_a, FL.sPar_a, FL.mNil_a, FL.mV_a, FL.mO_a, FL.setAll_c, FL.setAll_n, FL.eDm_a, FL.eCall_a, FL.eCallP_a, FL.eCallO_a, FL.eCallOP_a, FL.arrB_a, FL.iEn_a, FL.turn_a, FL.fnB_a, FL.fnL_a, FL.rep_s, FL.rep_z, FL.few_z, FL.few_1, FL.few_2, FL.few_3, FL.gAdd_i, FL.gSub_i, FL.cLt_i, FL.cLe_i, FL.cGt_i, FL.cGe_i, FL.cEq_i, FL.cNe_i, FL.cEq_str, FL.cNe_str, FL.eqv_b, FL.cEq_b, FL.truth_b, FL.truth_i, FL.truth_l, FL.truth_t, FL.gLen_l, FL.gLen_t, FL.gInt_i, FL.gTup_l, FL.gTup_t, FL.items_l, FL.items_t, FL.cIs_b, FL.gIx_l0, FL.gIx_l1, FL.gIx_l2, FL.gIx_t0, FL.gIx_t1, FL.gIx_t2, FL.cLt_n, FL.cLt_ni, FL.cLt_in, FL.cLe_n, FL.cLe_ni, FL.cLe_in, FL.cGt_n, FL.cGt_ni, FL.cGe_n, FL.cGe_ni, FL.cEq_n, FL.cEq_ni, FL.cEq_in, FL.cNe_n, FL.cNe_ni, FL.gAdd_n, FL.gAdd_ni, FL.gAdd_in, FL.gSub_ni, FL.gSub_nn, FL.gSub_in, FL.gInt_n, FL.cEq_tN, FL.cNe_tN, FL.cEq_lN, FL.sh_nilL, FL.sh_nilT, FL.gLen_tN, FL.gLen_tT, FL.gIx_tN, FL.gIx_tT, FL.items_tN, FL.items_tT, FL.ty_i, FL.ty_n, FL.ty_tN, FL.ty_tT, FL.kit_ii, FL.kit_ib, FL.kit_tt, FL.kit_lt, FL.same_tN, FL.same_l, FL.arr_n, FL.arr_c, List.getElem?_cons_zero, List.getElem?_cons_succ, List.set_cons_zero, List.set_cons_succ, List.length_cons, List.length_nil, List.map_cons, List.map_nil, List.cons_append, List.nil_append, Bool.not_true, Bool.not_false, if_true, if_false, Bool.false_eq_true, FL.R.bind, eq_self, and_self, decide_true, decide_false, Option.bind_some, Option.map_some, List.length_map, FL.wipeE, FL.backE, hF]
        have e2 : item n i (.int k) = (pers n (.int k) && !decide (k = (i : Int))) := rfl
        rw [e2, c, Bool.false_and]
    | _ =>
      simp only [pers] at hF
      simp (config := { implicitDefEqProofs := false }) only [FL.lift_a, FL.eC_a, FL.eV_a, FL.eN_a, FL.eP_p, FL.rd_d, FL.rd_i, FL.rd_p, FL.toSrc_a, FL.e1_a, FL.e2_a, FL.eCmp_a, FL.eBool_a, FL.eChain_a, FL.eChain_t, FL.pure_a, FL.eTruth_a, FL.bNot_a, FL.bAnd_a, FL.bOr_a, FL.bYes_a, FL.eIf_a, FL.vAnd_a, FL.vOr_a, FL.asBool_a, FL.eNil_a, FL.eCons_a, FL.eTup_a, FL.eLst_a, FL.eL_a, FL.eIx_a, FL.eSl_a, FL.pNo_a, FL.pSo_a, FL.asInt_a, FL.sNil_a, FL.sCons_a, FL.rdA_n, FL.rdA_c, FL.eCall1_a, FL.eCallL_a, FL.eIsi_a, FL.eM1_a, FL.sSeq_a, FL.sSeqL_a, FL.sIfL_a, FL.sNx_a, FL.sBk_a, FL.sCt_a, FL.sRet_a, FL.sRetN_a, FL.sDrop_a, FL.sIf_a, FL.aN_a, FL.aNil_a, FL.aCons_a, FL.aTup_a, FL.aPool_0, FL.aPool_1, FL.aPool_2, FL.sSet_a, FL.sSetO_a, FL.sAsg_a, FL.sApp_a, FL.sExt_a, FL.ePop_a, FL.sStore_a, FL.aSub_a, FL.ownAt_a, FL.putAt_a, FL.sPar_a, FL.mNil_a, FL.mV_a, FL.mO_a, FL.setAll_c, FL.setAll_n, FL.eDm_a, FL.eCall_a, FL.eCallP_a, FL.eCallO_a, FL.eCallOP_a, FL.arrB_a, FL.iEn_a, FL.turn_a, FL.fnB_a, FL.fnL_a, FL.rep_s, FL.rep_z, FL.few_z, FL.few_1, FL.few_2, FL.few_3, FL.gAdd_i, FL.gSub_i, FL.cLt_i, FL.cLe_i, FL.cGt_i, FL.cGe_i, FL.cEq_i, FL.cNe_i, FL.cEq_str, FL.cNe_str, FL.eqv_b, FL.cEq_b, FL.truth_b, FL.truth_i, FL.truth_l, FL.truth_t, FL.gLen_l, FL.gLen_t, FL.gInt_i, FL.gTup_l, FL.gTup_t, FL.items_l, FL.items_t, FL.cIs_b, FL.gIx_l0, FL.gIx_l1, FL.gIx_l2, FL.gIx_t0, FL.gIx_t1, FL.gIx_t2, FL.cLt_n, FL.cLt_ni, FL.cLt_in, FL.cLe_n, FL.cLe_ni, FL.cLe_in, FL.cGt_n, FL.cGt_ni, FL.cGe_n, FL.cGe_ni, FL.cEq_n, FL.cEq_ni, FL.cEq_in, FL.cNe_n, FL.cNe_ni, FL.gAdd_n, FL.gAdd_ni, FL.gAdd_in, FL.gSub_ni, FL.gSub_nn, FL.gSub_in, FL.gInt_n, FL.cEq_tN, FL.cNe_tN, FL.cEq_lN, FL.sh_nilL, FL.sh_nilT, FL.gLen_tN, FL.gLen_tT, FL.gIx_tN, FL.gIx_tT, FL.items_tN, FL.items_tT, FL.ty_i, FL.ty_n, FL.ty_tN, FL.ty_tT, FL.kit_ii, FL.kit_ib, FL.kit_tt, FL.kit_lt, FL.same_tN, FL.same_l, FL.arr_n, FL.arr_c, List.getElem?_cons_zero, List.getElem?_cons_succ, List.set_cons_zero, List.set_cons_succ, List.length_cons, List.length_nil, List.map_cons, List.map_nil, List.cons_append, List.nil_append, Bool.not_true, Bool.not_false, if_true, if_false, Bool.false_eq_true, FL.R.bind, eq_self, and_self, decide_true, decide_false, Option.bind_some, Option.map_some, List.length_map, FL.wipeE, FL.backE, hF, item]
  exact key _ (person_d (h e he).ty)
theorem unlike_ok {n i : Nat} {l : List Nat} (hl : l.length ≤ 200) : eLc (iEn (eV 2)) [3, 4] (aTup (aCons (aN 4) (aCons (aN 3) (aNil)))) (bYes) (eBool (eCmp (cIn true) (eN 3) (toSrc (eSl (eN 2) (pNo) (pSo (eV 4)))))) ⟨[.v (nD n), .v (nD i), .v (tN l), .no, .no], none⟩ = .ok ((l.zipIdx).map fun x => .bool (!decide (x.1 ∈ l.take x.2))) ⟨[.v (nD n), .v (nD i), .v (tN l), .no, .no], none⟩ := by
  rw [← fm_some]
  have hf : iEn (eV 2) ⟨[.v (nD n), .v (nD i), .v (tN l), .no, .no], none⟩ = .ok ((l.zipIdx).map fun x => .tuple [nD x.2, nD x.1]) ⟨[.v (nD n), .v (nD i), .v (tN l), .no, .no], none⟩ := by
    rw [← enumD_zip]
    simp (config := { implicitDefEqProofs := false }) only [FL.lift_a, FL.eC_a, FL.eV_a, FL.eN_a, FL.eP_p, FL.rd_d, FL.rd_i, FL.rd_p, FL.toSrc_a, FL.e1_a, FL.e2_a, FL.eCmp_a, FL.eBool_a, FL.eChain_a, FL.eChain_t, FL.pure_a, FL.eTruth_a, FL.bNot_a, FL.bAnd_a, FL.bOr_a, FL.bYes_a, FL.eIf_a, FL.vAnd_a, FL.vOr_a, FL.asBool_a, FL.eNil_a, FL.eCons_a, FL.eTup_a, FL.eLst_a, FL.eL_a, FL.eIx_a, FL.eSl_a, FL.pNo_a, FL.pSo_a, FL.asInt_a, FL.sNil_a, FL.sCons_a, FL.rdA_n, FL.rdA_c, FL.eCall1_a, FL.eCallL_a, FL.eIsi_a, FL.eM1_a, FL.sSeq_a, FL.sSeqL_a, FL.sIfL_a, FL.sNx_a, FL.sBk_a, FL.sCt_a, FL.sRet_a, FL.sRetN_a, FL.sDrop_a, FL.sIf_a, FL.aN_a, FL.aNil_a, FL.aCons_a, FL.aTup_a, FL.aPool_0, FL.aPool_1, FL.aPool_2, FL.sSet_a, FL.sSetO_a, FL.sAsg_a, FL.sApp_a, FL.sExt_a, FL.ePop_a, FL.sStore_a, FL.aSub_a, FL.ownAt_a, FL.putAt_a, FL.sPar_a, FL.mNil_a, FL.mV_a, FL.mO_a, FL.setAll_c, FL.setAll_n, FL.eDm_a, FL.eCall_a, FL.eCallP_a, FL.eCallO_a, FL.eCallOP_a, FL.arrB_a, FL.iEn_a, FL.turn_a, FL.fnB_a, FL.fnL_a, FL.rep_s, FL.rep_z, FL.few_z, FL.few_1, FL.few_2, FL.few_3, FL.gAdd_i, FL.gSub_i, FL.cLt_i, FL.cLe_i, FL.cGt_i, FL.cGe_i, FL.cEq_i, FL.cNe_i, FL.cEq_str, FL.cNe_str, FL.eqv_b, FL.cEq_b, FL.truth_b, FL.truth_i, FL.truth_l, FL.truth_t, FL.gLen_l, FL.gLen_t, FL.gInt_i, FL.gTup_l, FL.gTup_t, FL.items_l, FL.items_t, FL.cIs_b, FL.gIx_l0, FL.gIx_l1, FL.gIx_l2, FL.gIx_t0, FL.gIx_t1, FL.gIx_t2, FL.cLt_n, FL.cLt_ni, FL.cLt_in, FL.cLe_n, FL.cLe_ni, FL.cLe_in, FL.cGt_n, FL.cGt_ni, FL.cGe_n, FL.cGe_ni, FL.cEq_n, FL.cEq_ni, FL.cEq_in, FL.cNe_n, FL.cNe_ni, FL.gAdd_n, FL.gAdd_ni, FL.gAdd_in, FL.gSub_ni, FL.gSub_nn, FL.gSub_in, FL.gInt_n, FL.cEq_tN, FL.cNe_tN, FL.cEq_lN, FL.sh_nilL, FL.sh_nilT, FL.gLen_tN, FL.gLen_tT, FL.gIx_tN, FL.gIx_tT, FL.items_tN, FL.items_tT, FL.ty_i, FL.ty_n, FL.ty_tN, FL.ty_tT, FL.kit_ii, FL.kit_ib, FL.kit_tt, FL.kit_lt, FL.same_tN, FL.same_l, FL.arr_n, FL.arr_c, List.getElem?_cons_zero, List.getElem?_cons_succ, List.set_cons_zero, List.set_cons_succ, List.length_cons, List.length_nil, List.map_cons, List.map_nil, List.cons_append, List.nil_append, Bool.not_true, Bool.not_false, if_true, if_false, Bool.false_eq_true, FL.R.bind, eq_self, and_self, decide_true, decide_false, Option.bind_some, Option.map_some, List.length_map, FL.wipeE, FL.backE]
  refine eLc_filterA (fun x : Nat × Nat => .tuple [nD x.2, nD x.1]) _ _ hf (fun x hx => ⟨[.v (nD n), .v (nD i), .v (tN l), .v (nD x.1), .v (nD x.2)], ?_, rfl⟩) (by rw [List.length_zipIdx, sizeLine_eq]; omega)
  have hs : gSl none (some (x.2 : Nat)) (tN l) = some (tN (l.take x.2)) := by
    show some (PyData.tuple (FL.cut (l.map nD) none (some (x.2 : Nat)))) = _
    rw [cut_hiN, ← List.map_take]
    rfl
  have hc := cIn_nN true x.1 (l.take x.2)
  simp only [if_true] at hc
  simp (config := { implicitDefEqProofs := false }) only [FL.lift_a, FL.eC_a, FL.eV_a, FL.eN_a, FL.eP_p, FL.rd_d, FL.rd_i, FL.rd_p, FL.toSrc_a, FL.e1_a, FL.e2_a, FL.eCmp_a, FL.eBool_a, FL.eChain_a, FL.eChain_t, FL.pure_a, FL.eTruth_a, FL.bNot_a, FL.bAnd_a, FL.bOr_a, FL.bYes_a, FL.eIf_a, FL.vAnd_a, FL.vOr_a, FL.asBool_a, FL.eNil_a, FL.eCons_a, FL.eTup_a, FL.eLst_a, FL.eL_a, FL.eIx_a, FL.eSl_a, FL.pNo_a, FL.pSo_a, FL.sNil_a, FL.sCons_a, FL.rdA_n, FL.rdA_c, FL.eCall1_a, FL.eCallL_a, FL.eIsi_a, FL.eM1_a, FL.sSeq_a, FL.sSeqL_a, FL.sIfL_a, FL.sNx_a, FL.sBk_a, FL.sCt_a, FL.sRet_a, FL.sRetN_a, FL.sDrop_a, FL.sIf_a, FL.aN_a, FL.aNil_a, FL.aCons_a, FL.aTup_a, FL.aPool_0, FL.aPool_1, FL.aPool_2, FL.sSet_a, FL.sSetO_a, FL.sAsg_a, FL.sApp_a, FL.sExt_a, FL.ePop_a, FL.sStore_a, FL.aSub_a, FL.ownAt_a, FL.putAt_a, FL.sPar_a, FL.mNil_a, FL.mV_a, FL.mO_a, FL.setAll_c, FL.setAll_n, FL.eDm_a, FL.eCall_a, FL.eCallP_a, FL.eCallO_a, FL.eCallOP_a, FL.arrB_a, FL.iEn_a, FL.turn_a, FL.fnB_a, FL.fnL_a, FL.rep_s, FL.rep_z, FL.few_z, FL.few_1, FL.few_2, FL.few_3, FL.gAdd_i, FL.gSub_i, FL.cLt_i, FL.cLe_i, FL.cGt_i, FL.cGe_i, FL.cEq_i, FL.cNe_i, FL.cEq_str, FL.cNe_str, FL.eqv_b, FL.cEq_b, FL.truth_b, FL.truth_i, FL.truth_l, FL.truth_t, FL.gLen_l, FL.gLen_t, FL.gInt_i, FL.gTup_l, FL.gTup_t, FL.items_l, FL.items_t, FL.cIs_b, FL.gIx_l0, FL.gIx_l1, FL.gIx_l2, FL.gIx_t0, FL.gIx_t1, FL.gIx_t2, FL.cLt_n, FL.cLt_ni, FL.cLt_in, FL.cLe_n, FL.cLe_ni, FL.cLe_in, FL.cGt_n, FL.cGt_ni, FL.cGe_n, FL.cGe_ni, FL.cEq_n, FL.cEq_ni, FL.cEq_in, FL.cNe_n, FL.cNe_ni, FL.gAdd_n, FL.gAdd_ni, FL.gAdd_in, FL.gSub_ni, FL.gSub_nn, FL.gSub_in, FL.gInt_n, FL.cEq_tN, FL.cNe_tN, FL.cEq_lN, FL.sh_nilL, FL.sh_nilT, FL.gLen_tN, FL.gLen_tT, FL.gIx_tN, FL.gIx_tT, FL.items_tN, FL.items_tT, FL.ty_i, FL.ty_n, FL.ty_tN, FL.ty_tT, FL.kit_ii, FL.kit_ib, FL.kit_tt, FL.kit_lt, FL.same_tN, FL.same_l, FL.arr_n, FL.arr_c, List.getElem?_cons_zero, List.getElem?_cons_succ, List.set_cons_zero, List.set_cons_succ, List.length_cons, List.length_nil, List.map_cons, List.map_nil, List.cons_append, List.nil_append, Bool.not_true, Bool.not_false, if_true, if_false, Bool.false_eq_true, FL.R.bind, eq_self, and_self, decide_true, decide_false, Option.bind_some, Option.map_some, List.length_map, FL.wipeE, FL.backE, asInt_n, hs, hc]
theorem is_row_ok {n i : Nat} {d : D} (h : RowC d) : f_is_row [nD n, nD i, d] none = .ok (.bool (goodB n i d)) none := by
  have ht := isi_t h.ty
  cases d with
  | tuple es =>
    obtain ⟨hl, hi⟩ := h.its es rfl
    have hA := items_ok (n := n) (i := i) hl hi
    have hg := gAny_map true (item n i) es
    simp only [if_true] at hg
    have ht' : ((tyD (.tuple es)).bind fun t => (kitB t "tuple").map PyData.bool) = some (.bool true) := ht
    cases c : es.all (item n i) with
    | false =>
      rw [c] at hg
      have e : goodB n i (.tuple es) = false := by
        show (es.all (item n i) && _) = false
        rw [c, Bool.false_and]
      rw [e]
      have key : ∀ A B : B (List D), A ⟨[.v (nD n), .v (nD i), .v (.tuple es), .no, .no], none⟩ = .ok (es.map fun e => .bool (item n i e)) ⟨[.v (nD n), .v (nD i), .v (.tuple es), .no, .no], none⟩ → fnB 3 5 (sSeq (sIf (bOr (bNot (eTruth (toSrc (eIsi "tuple" (eN 2))))) (bNot (eTruth (toSrc (eCall1 (gAny true) (sCons (toSrc (eL A)) (sNil))))))) (sRet (eC (.bool false))) (sNx)) (sRet (eCall1 (gAny true) (sCons (toSrc (eL B)) (sNil))))) [nD n, nD i, .tuple es] none = .ok (.bool false) none := by
        intro A B hA
        simp (config := { implicitDefEqProofs := false }) only [FL.lift_a, FL.eC_a, FL.eV_a, FL.eN_a, FL.eP_p, FL.rd_d, FL.rd_i, FL.rd_p, FL.toSrc_a, FL.e1_a, FL.e2_a, FL.eCmp_a, FL.eBool_a, FL.eChain_a, FL.eChain_t, FL.pure_a, FL.eTruth_a, FL.bNot_a, FL.bAnd_a, FL.bOr_a, FL.bYes_a, FL.eIf_a, FL.vAnd_a, FL.vOr_a, FL.asBool_a, FL.eNil_a, FL.eCons_a, FL.eTup_a, FL.eLst_a, FL.eL_a, FL.eIx_a, FL.eSl_a, FL.pNo_a, FL.pSo_a, FL.asInt_a, FL.sNil_a, FL.sCons_a, FL.rdA_n, FL.rdA_c, FL.eCall1_a, FL.eCallL_a, FL.eIsi_a, FL.eM1_a, FL.sSeq_a, FL.sSeqL_a, FL.sIfL_a, FL.sNx_a, FL.sBk_a, FL.sCt_a, FL.sRet_a, FL.sRetN_a, FL.sDrop_a, FL.sIf_a, FL.aN_a, FL.aNil_a, FL.aCons_a, FL.aTup_a, FL.aPool_0, FL.aPool_1, FL.aPool_2, FL.sSet_a, FL.sSetO_a, FL.sAsg_a, FL.sApp_a, FL.sExt_a, FL.ePop_a, FL.sStore_a, FL.aSub_a, FL.ownAt_a, FL.putAt_a, FL.sPar_a, FL.mNil_a, FL.mV_a, FL.mO_a, FL.setAll_c, FL.setAll_n, FL.eDm_a, FL.eCall_a, FL.eCallP_a, FL.eCallO_a, FL.eCallOP_a, FL.arrB_a, FL.iEn_a, FL.turn_a, FL.fnB_a, FL.fnL_a, FL.rep_s, FL.rep_z, FL.few_z, FL.few_1, FL.few_2, FL.few_3, FL.gAdd_i, FL.gSub_i, FL.cLt_i, FL.cLe_i, FL.cGt_i, FL.cGe_i, FL.cEq_i, FL.cNe_i, FL.cEq_str, FL.cNe_str, FL.eqv_b, FL.cEq_b, FL.truth_b, FL.truth_i, FL.truth_l, FL.truth_t, FL.gLen_l, FL.gLen_t, FL.gInt_i, FL.gTup_l, FL.gTup_t, FL.items_l, FL.items_t, FL.cIs_b, FL.gIx_l0, FL.gIx_l1, FL.gIx_l2, FL.gIx_t0, FL.gIx_t1, FL.gIx_t2, FL.cLt_n, FL.cLt_ni, FL.cLt_in, FL.cLe_n, FL.cLe_ni, FL.cLe_in, FL.cGt_n, FL.cGt_ni, FL.cGe_n, FL.cGe_ni, FL.cEq_n, FL.cEq_ni, FL.cEq_in, FL.cNe_n, FL.cNe_ni, FL.gAdd_n, FL.gAdd_ni, FL.gAdd_in, FL.gSub_ni, FL.gSub_nn, FL.gSub_in, FL.gInt_n, FL.cEq_tN, FL.cNe_tN, FL.cEq_lN, FL.sh_nilL, FL.sh_nilT, FL.gLen_tN, FL.gLen_tT, FL.gIx_tN, FL.gIx_tT, FL.items_tN, FL.items_tT, FL.ty_i, FL.ty_n, FL.kit_ii, FL.kit_ib, FL.kit_lt, FL.same_tN, FL.same_l, FL.arr_n, FL.arr_c, List.getElem?_cons_zero, List.getElem?_cons_succ, List.set_cons_zero, List.set_cons_succ, List.length_cons, List.length_nil, List.map_cons, List.map_nil, List.cons_append, List.nil_append, Bool.not_true, Bool.not_false, if_true, if_false, Bool.false_eq_true, FL.R.bind, eq_self, and_self, decide_true, decide_false, Option.bind_some, Option.map_some, List.length_map, FL.wipeE, FL.backE, hA, ht', hg]
      exact key _ _ hA
    | true =>
      rw [c] at hg
      obtain ⟨l, rfl, hx⟩ := items_nat es (List.all_eq_true.mp c)
      have e : goodB n i (.tuple (l.map nD)) = decide l.Nodup := by
        show ((l.map nD).all (item n i) && decide (((l.map nD).map toI).Nodup)) = _
        rw [c, Bool.true_and, toI_nD]
        exact decide_eq_decide.mpr nodup_cast
      rw [e]
      have hB := unlike_ok (n := n) (i := i) (l := l) (by simpa using hl)
      have hg2 := gAny_map true (fun x : Nat × Nat => !decide (x.1 ∈ l.take x.2)) l.zipIdx
      simp only [if_true] at hg2
      rw [all_unlike] at hg2
      have key : ∀ A B : B (List D), A ⟨[.v (nD n), .v (nD i), .v (tN l), .no, .no], none⟩ = .ok ((l.map nD).map fun e => .bool (item n i e)) ⟨[.v (nD n), .v (nD i), .v (tN l), .no, .no], none⟩ → B ⟨[.v (nD n), .v (nD i), .v (tN l), .no, .no], none⟩ = .ok ((l.zipIdx).map fun x => .bool (!decide (x.1 ∈ l.take x.2))) ⟨[.v (nD n), .v (nD i), .v (tN l), .no, .no], none⟩ →
          fnB 3 5 (sSeq (sIf (bOr (bNot (eTruth (toSrc (eIsi "tuple" (eN 2))))) (bNot (eTruth (toSrc (eCall1 (gAny true) (sCons (toSrc (eL A)) (sNil))))))) (sRet (eC (.bool false))) (sNx)) (sRet (eCall1 (gAny true) (sCons (toSrc (eL B)) (sNil))))) [nD n, nD i, tN l] none = .ok (.bool (decide l.Nodup)) none := by
        intro A B hA hB
        simp (config := { implicitDefEqProofs := false }) only [FL.lift_a, FL.eC_a, FL.eV_a, FL.eN_a, FL.eP_p, FL.rd_d, FL.rd_i, FL.rd_p, FL.toSrc_a, FL.e1_a, FL.e2_a, FL.eCmp_a, FL.eBool_a, FL.eChain_a, FL.eChain_t, FL.pure_a, FL.eTruth_a, FL.bNot_a, FL.bAnd_a, FL.bOr_a, FL.bYes_a, FL.eIf_a, FL.vAnd_a, FL.vOr_a, FL.asBool_a, FL.eNil_a, FL.eCons_a, FL.eTup_a, FL.eLst_a, FL.eL_a, FL.eIx_a, FL.eSl_a, FL.pNo_a, FL.pSo_a, FL.asInt_a, FL.sNil_a, FL.sCons_a, FL.rdA_n, FL.rdA_c, FL.eCall1_a, FL.eCallL_a, FL.eIsi_a, FL.eM1_a, FL.sSeq_a, FL.sSeqL_a, FL.sIfL_a, FL.sNx_a, FL.sBk_a, FL.sCt_a, FL.sRet_a, FL.sRetN_a, FL.sDrop_a, FL.sIf_a, FL.aN_a, FL.aNil_a, FL.aCons_a, FL.aTup_a, FL.aPool_0, FL.aPool_1, FL.aPool_2, FL.sSet_a, FL.sSetO_a, FL.sAsg_a, FL.sApp_a, FL.sExt_a, FL.ePop_a, FL.sStore_a, FL.aSub_a, FL.ownAt_a, FL.putAt_a, FL.sPar_a, FL.mNil_a, FL.mV_a, FL.mO_a, FL.setAll_c, FL.setAll_n, FL.eDm_a, FL.eCall_a, FL.eCallP_a, FL.eCallO_a, FL.eCallOP_a, FL.arrB_a, FL.iEn_a, FL.turn_a, FL.fnB_a, FL.fnL_a, FL.rep_s, FL.rep_z, FL.few_z, FL.few_1, FL.few_2, FL.few_3, FL.gAdd_i, FL.gSub_i, FL.cLt_i, FL.cLe_i, FL.cGt_i, FL.cGe_i, FL.cEq_i, FL.cNe_i, FL.cEq_str, FL.cNe_str, FL.eqv_b, FL.cEq_b, FL.truth_b, FL.truth_i, FL.truth_l, FL.truth_t, FL.gLen_l, FL.gLen_t, FL.gInt_i, FL.gTup_l, FL.gTup_t, FL.items_l, FL.items_t, FL.cIs_b, FL.gIx_l0, FL.gIx_l1, FL.gIx_l2, FL.gIx_t0, FL.gIx_t1, FL.gIx_t2, FL.cLt_n, FL.cLt_ni, FL.cLt_in, FL.cLe_n, FL.cLe_ni, FL.cLe_in, FL.cGt_n, FL.cGt_ni, FL.cGe_n, FL.cGe_ni, FL.cEq_n, FL.cEq_ni, FL.cEq_in, FL.cNe_n, FL.cNe_ni, FL.gAdd_n, FL.gAdd_ni, FL.gAdd_in, FL.gSub_ni, FL.gSub_nn, FL.gSub_in, FL.gInt_n, FL.cEq_tN, FL.cNe_tN, FL.cEq_lN, FL.sh_nilL, FL.sh_nilT, FL.gLen_tN, FL.gLen_tT, FL.gIx_tN, FL.gIx_tT, FL.items_tN, FL.items_tT, FL.ty_i, FL.ty_n, FL.ty_tN, FL.ty_tT, FL.kit_ii, FL.kit_ib, FL.kit_tt, FL.kit_lt, FL.same_tN, FL.same_l, FL.arr_n, FL.arr_c, List.getElem?_cons_zero, List.getElem?_cons_succ, List.set_cons_zero, List.set_cons_succ, List.length_cons, List.length_nil, List.map_cons, List.map_nil, List.cons_append, List.nil_append, Bool.not_true, Bool.not_false, if_true, if_false, Bool.false_eq_true, FL.R.bind, eq_self, and_self, decide_true, decide_false, Option.bind_some, Option.map_some, List.length_map, FL.wipeE, FL.backE, hA, hg, hB, hg2]
      exact key _ _ hA hB
  | _ =>
    have key : ∀ (A B : B (List D)) (d : D), ((tyD d).bind fun t => (kitB t "tuple").map PyData.bool) = some (.bool false) → fnB 3 5 (sSeq (sIf (bOr (bNot (eTruth (toSrc (eIsi "tuple" (eN 2))))) (bNot (eTruth (toSrc (eCall1 (gAny true) (sCons (toSrc (eL A)) (sNil))))))) (sRet (eC (.bool false))) (sNx)) (sRet (eCall1 (gAny true) (sCons (toSrc (eL B)) (sNil))))) [nD n, nD i, d] none = .ok (.bool false) none := by
      intro A B d hd
      simp (config := { implicitDefEqProofs := false }) only [FL.lift_a, FL.eC_a, FL.eV_a, FL.eN_a, FL.eP_p, FL.rd_d, FL.rd_i, FL.rd_p, FL.toSrc_a, FL.e1_a, FL.e2_a, FL.eCmp_a, FL.eBool_a, FL.eChain_a, FL.eChain_t, FL.pure_a, FL.eTruth_a, FL.bNot_a, FL.bAnd_a, FL.bOr_a, FL.bYes_a, FL.eIf_a, FL.vAnd_a, FL.vOr_a, FL.asBool_a, FL.eNil_a, FL.eCons_a, FL.eTup_a, FL.eLst_a, FL.eL_a, FL.eIx_a, FL.eSl_a, FL.pNo_a, FL.pSo_a, FL.asInt_a, FL.sNil_a, FL.sCons_a, FL.rdA_n, FL.rdA_c, FL.eCall1_a, FL.eCallL_a, FL.eIsi_a, FL.eM1_a, FL.sSeq_a, FL.sSeqL_a, FL.sIfL_a, FL.sNx_a, FL.sBk_a, FL.sCt_a, FL.sRet_a, FL.sRetN_a, FL.sDrop_a, FL.sIf_a, FL.aN_a, FL.aNil_a, FL.aCons_a, FL.aTup_a, FL.aPool_0, FL.aPool_1, FL.aPool_2, FL.sSet_a, FL.sSetO_a, FL.sAsg_a, FL.sApp_a, FL.sExt_a, FL.ePop_a, FL.sStore_a, FL.aSub_a, FL.ownAt_a, FL.putAt_a, FL.sPar_a, FL.mNil_a, FL.mV_a, FL.mO_a, FL.setAll_c, FL.setAll_n, FL.eDm_a, FL.eCall_a, FL.eCallP_a, FL.eCallO_a, FL.eCallOP_a, FL.arrB_a, FL.iEn_a, FL.turn_a, FL.fnB_a, FL.fnL_a, FL.rep_s, FL.rep_z, FL.few_z, FL.few_1, FL.few_2, FL.few_3, FL.gAdd_i, FL.gSub_i, FL.cLt_i, FL.cLe_i, FL.cGt_i, FL.cGe_i, FL.cEq_i, FL.cNe_i, FL.cEq_str, FL.cNe_str, FL.eqv_b, FL.cEq_b, FL.truth_b, FL.truth_i, FL.truth_l, FL.truth_t, FL.gLen_l, FL.gLen_t, FL.gInt_i, FL.gTup_l, FL.gTup_t, FL.items_l, FL.items_t, FL.cIs_b, FL.gIx_l0, FL.gIx_l1, FL.gIx_l2, FL.gIx_t0, FL.gIx_t1, FL.gIx_t2, FL.cLt_n, FL.cLt_ni, FL.cLt_in, FL.cLe_n, FL.cLe_ni, FL.cLe_in, FL.cGt_n, FL.cGt_ni, FL.cGe_n, FL.cGe_ni, FL.cEq_n, FL.cEq_ni, FL.cEq_in, FL.cNe_n, FL.cNe_ni, FL.gAdd_n, FL.gAdd_ni, FL.gAdd_in, FL.gSub_ni, FL.gSub_nn, FL.gSub_in, FL.gInt_n, FL.cEq_tN, FL.cNe_tN, FL.cEq_lN, FL.sh_nilL, FL.sh_nilT, FL.gLen_tN, FL.gLen_tT, FL.gIx_tN, FL.gIx_tT, FL.items_tN, FL.items_tT, FL.ty_i, FL.ty_n, FL.ty_tN, FL.ty_tT, FL.kit_ii, FL.kit_ib, FL.kit_tt, FL.kit_lt, FL.same_tN, FL.same_l, FL.arr_n, FL.arr_c, List.getElem?_cons_zero, List.getElem?_cons_succ, List.set_cons_zero, List.set_cons_succ, List.length_cons, List.length_nil, List.map_cons, List.map_nil, List.cons_append, List.nil_append, Bool.not_true, Bool.not_false, if_true, if_false, Bool.false_eq_true, FL.R.bind, eq_self, and_self, decide_true, decide_false, Option.bind_some, Option.map_some, List.length_map, FL.wipeE, FL.backE, hd]
    exact key _ _ _ ht
end M
set_option maxHeartbeats 4000000
/-! k03: is_book, the law's own reading, at any value. -/
namespace M
open PySem PySem.Spec PyProof.Rows L2 FL
theorem sh_none : SeqAt.shaped (.list [PyData.none]) = true := rfl
/-- wrong rows -/
def bad (ds : List D) : List Nat := ((ds.zipIdx).filter fun x => !goodB ds.length x.2 x.1).map (·.2)
theorem bad_nil {ds : List D} (h : bad ds = []) : ∀ i d, ds[i]? = some d → goodB ds.length i d = true := by
  intro i d hd
  unfold bad at h
  rw [List.map_eq_nil_iff, List.filter_eq_nil_iff] at h
  have hm : (d, i) ∈ ds.zipIdx := by
    rw [List.mem_iff_getElem?]
    exact ⟨i, by rw [List.getElem?_zipIdx, hd]; simp⟩
  have := h (d, i) hm
  simpa using this
theorem bad_ne {ds : List D} (h : bad ds ≠ []) : ∃ i d, ds[i]? = some d ∧ goodB ds.length i d = false := by
  obtain ⟨i, hi⟩ := List.exists_mem_of_ne_nil _ h
  unfold bad at hi
  obtain ⟨⟨d, j⟩, hm, rfl⟩ := List.mem_map.mp hi
  obtain ⟨hm, hg⟩ := List.mem_filter.mp hm
  rw [List.mem_iff_getElem?] at hm
  obtain ⟨k, hk⟩ := hm
  rw [List.getElem?_zipIdx] at hk
  obtain ⟨z, hz, e⟩ := Option.map_eq_some_iff.mp hk
  simp only [Prod.mk.injEq, Nat.zero_add] at e
  obtain ⟨rfl, rfl⟩ := e
  exact ⟨k, z, hz, by simpa using hg⟩
theorem goods {n : Nat} : ∀ (ds : List D) (k : Nat), (∀ i d, ds[i]? = some d → goodB n (k + i) d = true) → ∃ ls : List (List Nat), ds = ls.map tN ∧ ls.length = ds.length ∧ ∀ i, i < ls.length → (ls.getD i []).Nodup ∧ ∀ x ∈ ls.getD i [], x < n ∧ x ≠ k + i
  | [], k, _ => ⟨[], rfl, rfl, fun i hi => by simp at hi⟩
  | d :: ds, k, h => by
    obtain ⟨ls, rfl, hl, hx⟩ := goods ds (k + 1) fun i d hd => by
      have := h (i + 1) d (by simpa using hd)
      rw [show k + 1 + i = k + (i + 1) by omega]
      exact this
    obtain ⟨l, rfl, h1, h2⟩ := goodB_iff.mp (h 0 d rfl)
    refine ⟨l :: ls, rfl, by simp, fun i hi => ?_⟩
    cases i with
    | zero => exact ⟨h1, h2⟩
    | succ i =>
      have := hx i (by simpa using hi)
      rw [show k + 1 + i = k + (i + 1) by omega] at this
      exact this
/-- all rows are right; couples are not asked yet -/
structure Rows (ls : List (List Nat)) : Prop where
  lo : 1 ≤ ls.length
  hi : ls.length ≤ 7
  nd : ∀ i, i < ls.length → (ls.getD i []).Nodup
  inn : ∀ i, i < ls.length → ∀ x ∈ ls.getD i [], x < ls.length ∧ x ≠ i
theorem tN_inj {a b : List Nat} (h : tN a = tN b) : a = b := by
  have e := eqv_tN a b
  rw [h, eqv_tN] at e
  simpa using e.symm
theorem tTT_inj {a b : List (List Nat)} (h : tTT a = tTT b) : a = b := by
  have e := eqv_tT a b
  rw [h, eqv_tT] at e
  simpa using e.symm
theorem rows_of {ds : List D} (h1 : 1 ≤ ds.length) (h2 : ds.length ≤ 7) (h : bad ds = []) : ∃ ls, ds = ls.map tN ∧ Rows ls := by
  obtain ⟨ls, e, hl, hx⟩ := goods (n := ds.length) ds 0 fun i d hd => by rw [Nat.zero_add]; exact bad_nil h i d hd
  refine ⟨ls, e, by omega, by omega, fun i hi => (hx i hi).1, fun i hi x hxm => ?_⟩
  have := (hx i hi).2 x hxm
  omega
theorem isBk_bad {ds : List D} (h : isBk (.tuple ds)) : bad ds = [] := by
  obtain ⟨ls, e, hb⟩ := h
  have e : ds = ls.map tN := by injection e
  subst e
  apply Classical.byContradiction
  intro hne
  obtain ⟨i, d, hd, hg⟩ := bad_ne hne
  rw [List.getElem?_map] at hd
  obtain ⟨l, hl, rfl⟩ := Option.map_eq_some_iff.mp hd
  have hi : i < ls.length := (List.getElem?_eq_some_iff.mp hl).1
  have el : ls.getD i [] = l := by rw [List.getD_eq_getElem?_getD, hl]; rfl
  have : goodB (ls.map tN).length i (tN l) = true := goodB_iff.mpr ⟨l, rfl, by rw [← el]; exact hb.nd i hi, by rw [← el, List.length_map]; exact hb.inn i hi⟩
  rw [this] at hg
  cases hg
/-- strangers of a person -/
def strg (ls : List (List Nat)) (i : Nat) : List Nat := (ls.getD i []).filter fun x => !decide (i ∈ ls.getD x [])
theorem isBk_rows {ls : List (List Nat)} (h : Rows ls) : isBk (tTT ls) ↔ ∀ i, i < ls.length → strg ls i = [] := by
  constructor
  · rintro ⟨ls', e, hb⟩
    have e := tTT_inj e
    subst e
    intro i hi
    unfold strg
    rw [List.filter_eq_nil_iff]
    intro x hx
    rw [decide_eq_true (hb.sym i hi x hx)]
    exact Bool.false_ne_true
  · intro hs
    refine ⟨ls, rfl, rfl, h.lo, h.hi, h.nd, h.inn, fun i hi x hx => ?_⟩
    have := hs i hi
    unfold strg at this
    rw [List.filter_eq_nil_iff] at this
    simpa using this x hx
theorem Rows.row {ls : List (List Nat)} {i : Nat} (hi : i < ls.length) : ls[i]? = some (ls.getD i []) := by
  rw [List.getD_eq_getElem?_getD, List.getElem?_eq_getElem hi]
  rfl
theorem Rows.len {ls : List (List Nat)} (h : Rows ls) {i : Nat} (hi : i < ls.length) : (ls.getD i []).length ≤ 7 := by
  have h2 : ls.getD i [] ⊆ List.range ls.length := fun x hx => List.mem_range.mpr (h.inn i hi x hx).1
  have := List.Nodup.length_le_of_subset (h.nd i hi) h2
  have := h.hi
  simp at *
  omega
theorem gIx_row {ls : List (List Nat)} {i : Nat} (hi : i < ls.length) : gIx (tTT ls) (nD i) = some (tN (ls.getD i [])) := by
  rw [gIx_tT, Rows.row hi]
  rfl
theorem strangers_ok {ls : List (List Nat)} (h : Rows ls) {i : Nat} (hi : i < ls.length) : f_has_strangers [tTT ls, nD i] none = .ok (.bool (!(strg ls i).isEmpty)) none := by
  have hA : eLc (iItems (eIx (eN 0) (eV 1))) [2] (aN 2) (bYes) (eBool (eCmp (cIn true) (eN 1) (toSrc (eIx (eN 0) (eV 2))))) ⟨[.v (tTT ls), .v (nD i), .no], none⟩ = .ok ((ls.getD i []).map fun x => .bool (!decide (i ∈ ls.getD x []))) ⟨[.v (tTT ls), .v (nD i), .no], none⟩ := by
    rw [← fm_some]
    have hg := gIx_row hi
    have hf : iItems (eIx (eN 0) (eV 1)) ⟨[.v (tTT ls), .v (nD i), .no], none⟩ = .ok ((ls.getD i []).map nD) ⟨[.v (tTT ls), .v (nD i), .no], none⟩ := by
      refine iItems_t ?_
      simp (config := { implicitDefEqProofs := false }) only [FL.lift_a, FL.eC_a, FL.eV_a, FL.eN_a, FL.eP_p, FL.rd_d, FL.rd_i, FL.rd_p, FL.toSrc_a, FL.e1_a, FL.e2_a, FL.eCmp_a, FL.eBool_a, FL.eChain_a, FL.eChain_t, FL.pure_a, FL.eTruth_a, FL.bNot_a, FL.bAnd_a, FL.bOr_a, FL.bYes_a, FL.eIf_a, FL.vAnd_a, FL.vOr_a, FL.asBool_a, FL.eNil_a, FL.eCons_a, FL.eTup_a, FL.eLst_a, FL.eL_a, FL.eIx_a, FL.eSl_a, FL.pNo_a, FL.pSo_a, FL.asInt_a, FL.sNil_a, FL.sCons_a, FL.rdA_n, FL.rdA_c, FL.eCall1_a, FL.eCallL_a, FL.eIsi_a, FL.eM1_a, FL.sSeq_a, FL.sSeqL_a, FL.sIfL_a, FL.sNx_a, FL.sBk_a, FL.sCt_a, FL.sRet_a, FL.sRetN_a, FL.sDrop_a, FL.sIf_a, FL.aN_a, FL.aNil_a, FL.aCons_a, FL.aTup_a, FL.aPool_0, FL.aPool_1, FL.aPool_2, FL.sSet_a, FL.sSetO_a, FL.sAsg_a, FL.sApp_a, FL.sExt_a, FL.ePop_a, FL.sStore_a, FL.aSub_a, FL.ownAt_a, FL.putAt_a, FL.sPar_a, FL.mNil_a, FL.mV_a, FL.mO_a, FL.setAll_c, FL.setAll_n, FL.eDm_a, FL.eCall_a, FL.eCallP_a, FL.eCallO_a, FL.eCallOP_a, FL.arrB_a, FL.iEn_a, FL.turn_a, FL.fnB_a, FL.fnL_a, FL.rep_s, FL.rep_z, FL.few_z, FL.few_1, FL.few_2, FL.few_3, FL.gAdd_i, FL.gSub_i, FL.cLt_i, FL.cLe_i, FL.cGt_i, FL.cGe_i, FL.cEq_i, FL.cNe_i, FL.cEq_str, FL.cNe_str, FL.eqv_b, FL.cEq_b, FL.truth_b, FL.truth_i, FL.truth_l, FL.truth_t, FL.gLen_l, FL.gLen_t, FL.gInt_i, FL.gTup_l, FL.gTup_t, FL.items_l, FL.items_t, FL.cIs_b, FL.gIx_l0, FL.gIx_l1, FL.gIx_l2, FL.gIx_t0, FL.gIx_t1, FL.gIx_t2, FL.cLt_n, FL.cLt_ni, FL.cLt_in, FL.cLe_n, FL.cLe_ni, FL.cLe_in, FL.cGt_n, FL.cGt_ni, FL.cGe_n, FL.cGe_ni, FL.cEq_n, FL.cEq_ni, FL.cEq_in, FL.cNe_n, FL.cNe_ni, FL.gAdd_n, FL.gAdd_ni, FL.gAdd_in, FL.gSub_ni, FL.gSub_nn, FL.gSub_in, FL.gInt_n, FL.cEq_tN, FL.cNe_tN, FL.cEq_lN, FL.sh_nilL, FL.sh_nilT, FL.gLen_tN, FL.gLen_tT, FL.gIx_tN, FL.items_tN, FL.items_tT, FL.ty_i, FL.ty_n, FL.ty_tN, FL.ty_tT, FL.kit_ii, FL.kit_ib, FL.kit_tt, FL.kit_lt, FL.same_tN, FL.same_l, FL.arr_n, FL.arr_c, List.getElem?_cons_zero, List.getElem?_cons_succ, List.set_cons_zero, List.set_cons_succ, List.length_cons, List.length_nil, List.map_cons, List.map_nil, List.cons_append, List.nil_append, Bool.not_true, Bool.not_false, if_true, if_false, Bool.false_eq_true, FL.R.bind, eq_self, and_self, decide_true, decide_false, Option.bind_some, Option.map_some, List.length_map, FL.wipeE, FL.backE, hg]
      rfl
    refine eLc_filterA nD _ _ hf (fun x hx => ⟨[.v (tTT ls), .v (nD i), .v (nD x)], ?_, rfl⟩) (by have := h.len hi; rw [sizeLine_eq]; omega)
    have hg2 := gIx_row (h.inn i hi x hx).1
    have hc := cIn_nN true i (ls.getD x [])
    simp only [if_true] at hc
    simp (config := { implicitDefEqProofs := false }) only [FL.lift_a, FL.eC_a, FL.eV_a, FL.eN_a, FL.eP_p, FL.rd_d, FL.rd_i, FL.rd_p, FL.toSrc_a, FL.e1_a, FL.e2_a, FL.eCmp_a, FL.eBool_a, FL.eChain_a, FL.eChain_t, FL.pure_a, FL.eTruth_a, FL.bNot_a, FL.bAnd_a, FL.bOr_a, FL.bYes_a, FL.eIf_a, FL.vAnd_a, FL.vOr_a, FL.asBool_a, FL.eNil_a, FL.eCons_a, FL.eTup_a, FL.eLst_a, FL.eL_a, FL.eIx_a, FL.eSl_a, FL.pNo_a, FL.pSo_a, FL.asInt_a, FL.sNil_a, FL.sCons_a, FL.rdA_n, FL.rdA_c, FL.eCall1_a, FL.eCallL_a, FL.eIsi_a, FL.eM1_a, FL.sSeq_a, FL.sSeqL_a, FL.sIfL_a, FL.sNx_a, FL.sBk_a, FL.sCt_a, FL.sRet_a, FL.sRetN_a, FL.sDrop_a, FL.sIf_a, FL.aN_a, FL.aNil_a, FL.aCons_a, FL.aTup_a, FL.aPool_0, FL.aPool_1, FL.aPool_2, FL.sSet_a, FL.sSetO_a, FL.sAsg_a, FL.sApp_a, FL.sExt_a, FL.ePop_a, FL.sStore_a, FL.aSub_a, FL.ownAt_a, FL.putAt_a, FL.sPar_a, FL.mNil_a, FL.mV_a, FL.mO_a, FL.setAll_c, FL.setAll_n, FL.eDm_a, FL.eCall_a, FL.eCallP_a, FL.eCallO_a, FL.eCallOP_a, FL.arrB_a, FL.iEn_a, FL.turn_a, FL.fnB_a, FL.fnL_a, FL.rep_s, FL.rep_z, FL.few_z, FL.few_1, FL.few_2, FL.few_3, FL.gAdd_i, FL.gSub_i, FL.cLt_i, FL.cLe_i, FL.cGt_i, FL.cGe_i, FL.cEq_i, FL.cNe_i, FL.cEq_str, FL.cNe_str, FL.eqv_b, FL.cEq_b, FL.truth_b, FL.truth_i, FL.truth_l, FL.truth_t, FL.gLen_l, FL.gLen_t, FL.gInt_i, FL.gTup_l, FL.gTup_t, FL.items_l, FL.items_t, FL.cIs_b, FL.gIx_l0, FL.gIx_l1, FL.gIx_l2, FL.gIx_t0, FL.gIx_t1, FL.gIx_t2, FL.cLt_n, FL.cLt_ni, FL.cLt_in, FL.cLe_n, FL.cLe_ni, FL.cLe_in, FL.cGt_n, FL.cGt_ni, FL.cGe_n, FL.cGe_ni, FL.cEq_n, FL.cEq_ni, FL.cEq_in, FL.cNe_n, FL.cNe_ni, FL.gAdd_n, FL.gAdd_ni, FL.gAdd_in, FL.gSub_ni, FL.gSub_nn, FL.gSub_in, FL.gInt_n, FL.cEq_tN, FL.cNe_tN, FL.cEq_lN, FL.sh_nilL, FL.sh_nilT, FL.gLen_tN, FL.gLen_tT, FL.gIx_tN, FL.items_tN, FL.items_tT, FL.ty_i, FL.ty_n, FL.ty_tN, FL.ty_tT, FL.kit_ii, FL.kit_ib, FL.kit_tt, FL.kit_lt, FL.same_tN, FL.same_l, FL.arr_n, FL.arr_c, List.getElem?_cons_zero, List.getElem?_cons_succ, List.set_cons_zero, List.set_cons_succ, List.length_cons, List.length_nil, List.map_cons, List.map_nil, List.cons_append, List.nil_append, Bool.not_true, Bool.not_false, if_true, if_false, Bool.false_eq_true, FL.R.bind, eq_self, and_self, decide_true, decide_false, Option.bind_some, Option.map_some, List.length_map, FL.wipeE, FL.backE, hg2, hc]
  have hg := gAny_map false (fun x => !decide (i ∈ ls.getD x [])) (ls.getD i [])
  simp only [Bool.false_eq_true, if_false] at hg
  have e : ((ls.getD i []).any fun x => !decide (i ∈ ls.getD x [])) = !(strg ls i).isEmpty := by
    unfold strg
    generalize (ls.getD i []) = l
    induction l with
    | nil => rfl
    | cons a l ih =>
      rw [List.any_cons, List.filter_cons, ih]
      cases decide (i ∈ ls.getD a []) <;> simp
  rw [e] at hg
  have key : ∀ A : B (List D), A ⟨[.v (tTT ls), .v (nD i), .no], none⟩ = .ok ((ls.getD i []).map fun x => .bool (!decide (i ∈ ls.getD x []))) ⟨[.v (tTT ls), .v (nD i), .no], none⟩ → fnB 2 3 (sRet (eCall1 (gAny false) (sCons (toSrc (eL A)) (sNil)))) [tTT ls, nD i] none = .ok (.bool (!(strg ls i).isEmpty)) none := by
    intro A hA
    simp (config := { implicitDefEqProofs := false }) only [FL.lift_a, FL.eC_a, FL.eV_a, FL.eN_a, FL.eP_p, FL.rd_d, FL.rd_i, FL.rd_p, FL.toSrc_a, FL.e1_a, FL.e2_a, FL.eCmp_a, FL.eBool_a, FL.eChain_a, FL.eChain_t, FL.pure_a, FL.eTruth_a, FL.bNot_a, FL.bAnd_a, FL.bOr_a, FL.bYes_a, FL.eIf_a, FL.vAnd_a, FL.vOr_a, FL.asBool_a, FL.eNil_a, FL.eCons_a, FL.eTup_a, FL.eLst_a, FL.eL_a, FL.eIx_a, FL.eSl_a, FL.pNo_a, FL.pSo_a, FL.asInt_a, FL.sNil_a, FL.sCons_a, FL.rdA_n, FL.rdA_c, FL.eCall1_a, FL.eCallL_a, FL.eIsi_a, FL.eM1_a, FL.sSeq_a, FL.sSeqL_a, FL.sIfL_a, FL.sNx_a, FL.sBk_a, FL.sCt_a, FL.sRet_a, FL.sRetN_a, FL.sDrop_a, FL.sIf_a, FL.aN_a, FL.aNil_a, FL.aCons_a, FL.aTup_a, FL.aPool_0, FL.aPool_1, FL.aPool_2, FL.sSet_a, FL.sSetO_a, FL.sAsg_a, FL.sApp_a, FL.sExt_a, FL.ePop_a, FL.sStore_a, FL.aSub_a, FL.ownAt_a, FL.putAt_a, FL.sPar_a, FL.mNil_a, FL.mV_a, FL.mO_a, FL.setAll_c, FL.setAll_n, FL.eDm_a, FL.eCall_a, FL.eCallP_a, FL.eCallO_a, FL.eCallOP_a, FL.arrB_a, FL.iEn_a, FL.turn_a, FL.fnB_a, FL.fnL_a, FL.rep_s, FL.rep_z, FL.few_z, FL.few_1, FL.few_2, FL.few_3, FL.gAdd_i, FL.gSub_i, FL.cLt_i, FL.cLe_i, FL.cGt_i, FL.cGe_i, FL.cEq_i, FL.cNe_i, FL.cEq_str, FL.cNe_str, FL.eqv_b, FL.cEq_b, FL.truth_b, FL.truth_i, FL.truth_l, FL.truth_t, FL.gLen_l, FL.gLen_t, FL.gInt_i, FL.gTup_l, FL.gTup_t, FL.items_l, FL.items_t, FL.cIs_b, FL.gIx_l0, FL.gIx_l1, FL.gIx_l2, FL.gIx_t0, FL.gIx_t1, FL.gIx_t2, FL.cLt_n, FL.cLt_ni, FL.cLt_in, FL.cLe_n, FL.cLe_ni, FL.cLe_in, FL.cGt_n, FL.cGt_ni, FL.cGe_n, FL.cGe_ni, FL.cEq_n, FL.cEq_ni, FL.cEq_in, FL.cNe_n, FL.cNe_ni, FL.gAdd_n, FL.gAdd_ni, FL.gAdd_in, FL.gSub_ni, FL.gSub_nn, FL.gSub_in, FL.gInt_n, FL.cEq_tN, FL.cNe_tN, FL.cEq_lN, FL.sh_nilL, FL.sh_nilT, FL.gLen_tN, FL.gLen_tT, FL.gIx_tN, FL.gIx_tT, FL.items_tN, FL.items_tT, FL.ty_i, FL.ty_n, FL.ty_tN, FL.ty_tT, FL.kit_ii, FL.kit_ib, FL.kit_tt, FL.kit_lt, FL.same_tN, FL.same_l, FL.arr_n, FL.arr_c, List.getElem?_cons_zero, List.getElem?_cons_succ, List.set_cons_zero, List.set_cons_succ, List.length_cons, List.length_nil, List.map_cons, List.map_nil, List.cons_append, List.nil_append, Bool.not_true, Bool.not_false, if_true, if_false, Bool.false_eq_true, FL.R.bind, eq_self, and_self, decide_true, decide_false, Option.bind_some, Option.map_some, List.length_map, FL.wipeE, FL.backE, hA, hg]
  exact key _ hA
theorem badC_ok {ds : List D} (hl : ds.length ≤ 200) (hd : ∀ d ∈ ds, RowC d) {s1 : Sl} : eLc (iEn (eV 0)) [2, 3] (aTup (aCons (aN 2) (aCons (aN 3) (aNil)))) (bNot (eTruth (toSrc (eCall f_is_row (eCons (eCall1 gLen (sCons (eN 0) (sNil))) (eCons (eV 2) (eCons (eV 3) (eNil)))))))) (eV 2) ⟨[.v (.tuple ds), s1, .no, .no], none⟩ = .ok ((bad ds).map nD) ⟨[.v (.tuple ds), s1, .no, .no], none⟩ := by
  have hf : iEn (eV 0) ⟨[.v (.tuple ds), s1, .no, .no], none⟩ = .ok ((ds.zipIdx).map fun x => .tuple [nD x.2, x.1]) ⟨[.v (.tuple ds), s1, .no, .no], none⟩ := by
    have := enumD_zip id ds 0
    rw [List.map_id] at this
    have e : ((ds.zipIdx).map fun x => PyData.tuple [nD x.2, x.1]) = enumD 0 ds := this.symm
    rw [e]
    rfl
  have e1 : (bad ds).map nD = (ds.zipIdx).filterMap fun x => if (!goodB ds.length x.2 x.1) = true then some (nD x.2) else none := by
    rw [fm_if (fun x : D × Nat => nD x.2) (fun x => !goodB ds.length x.2 x.1)]
    unfold bad
    rw [List.map_map]
    rfl
  rw [e1]
  refine eLc_filterA (fun x : D × Nat => .tuple [nD x.2, x.1]) _ _ hf (fun x hx => ⟨[.v (.tuple ds), s1, .v (nD x.2), .v x.1], ?_, rfl⟩) (by rw [List.length_zipIdx, sizeLine_eq]; omega)
  have hm : x.1 ∈ ds := by
    have := List.mem_map_of_mem (f := Prod.fst) hx
    rwa [List.zipIdx_map_fst] at this
  have key : ∀ (F : Fn) (b : Bool), F [nD ds.length, nD x.2, x.1] none = .ok (.bool b) none → turnB (aTup (aCons (aN 2) (aCons (aN 3) (aNil)))) (bNot (eTruth (toSrc (eCall F (eCons (eCall1 gLen (sCons (eN 0) (sNil))) (eCons (eV 2) (eCons (eV 3) (eNil)))))))) (eV 2) (.tuple [nD x.2, x.1]) ⟨wipeE [.v (.tuple ds), s1, .no, .no] [2, 3], none⟩ = .ok (if (!b) = true then some (nD x.2) else none) ⟨[.v (.tuple ds), s1, .v (nD x.2), .v x.1], none⟩ := by
    intro F b hF
    have hlen : gLen [.tuple ds] = some (nD ds.length) := rfl
    cases b <;> simp (config := { implicitDefEqProofs := false }) only [FL.lift_a, FL.eC_a, FL.eV_a, FL.eN_a, FL.eP_p, FL.rd_d, FL.rd_i, FL.rd_p, FL.toSrc_a, FL.e1_a, FL.e2_a, FL.eCmp_a, FL.eBool_a, FL.eChain_a, FL.eChain_t, FL.pure_a, FL.eTruth_a, FL.bNot_a, FL.bAnd_a, FL.bOr_a, FL.bYes_a, FL.eIf_a, FL.vAnd_a, FL.vOr_a, FL.asBool_a, FL.eNil_a, FL.eCons_a, FL.eTup_a, FL.eLst_a, FL.eL_a, FL.eIx_a, FL.eSl_a, FL.pNo_a, FL.pSo_a, FL.asInt_a, FL.sNil_a, FL.sCons_a, FL.rdA_n, FL.rdA_c, FL.eCall1_a, FL.eCallL_a, FL.eIsi_a, FL.eM1_a, FL.sSeq_a, FL.sSeqL_a, FL.sIfL_a, FL.sNx_a, FL.sBk_a, FL.sCt_a, FL.sRet_a, FL.sRetN_a, FL.sDrop_a, FL.sIf_a, FL.aN_a, FL.aNil_a, FL.aCons_a, FL.aTup_a, FL.aPool_0, FL.aPool_1, FL.aPool_2, FL.sSet_a, FL.sSetO_a, FL.sAsg_a, FL.sApp_a, FL.sExt_a, FL.ePop_a, FL.sStore_a, FL.aSub_a, FL.ownAt_a, FL.putAt_a, FL.sPar_a, FL.mNil_a, FL.mV_a, FL.mO_a, FL.setAll_c, FL.setAll_n, FL.eDm_a, FL.eCall_a, FL.eCallP_a, FL.eCallO_a, FL.eCallOP_a, FL.arrB_a, FL.iEn_a, FL.turn_a, FL.fnB_a, FL.fnL_a, FL.rep_s, FL.rep_z, FL.few_z, FL.few_1, FL.few_2, FL.few_3, FL.gAdd_i, FL.gSub_i, FL.cLt_i, FL.cLe_i, FL.cGt_i, FL.cGe_i, FL.cEq_i, FL.cNe_i, FL.cEq_str, FL.cNe_str, FL.eqv_b, FL.cEq_b, FL.truth_b, FL.truth_i, FL.truth_l, FL.truth_t, FL.gLen_l, FL.gInt_i, FL.gTup_l, FL.gTup_t, FL.items_l, FL.items_t, FL.cIs_b, FL.gIx_l0, FL.gIx_l1, FL.gIx_l2, FL.gIx_t0, FL.gIx_t1, FL.gIx_t2, FL.cLt_n, FL.cLt_ni, FL.cLt_in, FL.cLe_n, FL.cLe_ni, FL.cLe_in, FL.cGt_n, FL.cGt_ni, FL.cGe_n, FL.cGe_ni, FL.cEq_n, FL.cEq_ni, FL.cEq_in, FL.cNe_n, FL.cNe_ni, FL.gAdd_n, FL.gAdd_ni, FL.gAdd_in, FL.gSub_ni, FL.gSub_nn, FL.gSub_in, FL.gInt_n, FL.cEq_tN, FL.cNe_tN, FL.cEq_lN, FL.sh_nilL, FL.sh_nilT, FL.gLen_tN, FL.gLen_tT, FL.gIx_tN, FL.gIx_tT, FL.items_tN, FL.items_tT, FL.ty_i, FL.ty_n, FL.ty_tN, FL.ty_tT, FL.kit_ii, FL.kit_ib, FL.kit_tt, FL.kit_lt, FL.same_tN, FL.same_l, FL.arr_n, FL.arr_c, List.getElem?_cons_zero, List.getElem?_cons_succ, List.set_cons_zero, List.set_cons_succ, List.length_cons, List.length_nil, List.map_cons, List.map_nil, List.cons_append, List.nil_append, Bool.not_true, Bool.not_false, if_true, if_false, Bool.false_eq_true, FL.R.bind, eq_self, and_self, decide_true, decide_false, Option.bind_some, Option.map_some, List.length_map, FL.wipeE, FL.backE, hlen, hF]
  exact key _ _ (is_row_ok (hd _ hm))
def bad2 (ls : List (List Nat)) : List Nat := (List.range ls.length).filter fun i => !(strg ls i).isEmpty
theorem bad2_nil {ls : List (List Nat)} : bad2 ls = [] ↔ ∀ i, i < ls.length → strg ls i = [] := by
  unfold bad2
  rw [List.filter_eq_nil_iff]
  constructor
  · intro h i hi
    simpa using h i (List.mem_range.mpr hi)
  · intro h i hi
    simp [h i (List.mem_range.mp hi)]
theorem bad2C_ok {ls : List (List Nat)} (h : Rows ls) {s1 : Sl} : eLc (iR1 (eCall1 gLen (sCons (eN 0) (sNil)))) [2] (aN 2) (eTruth (toSrc (eCall f_has_strangers (eCons (eV 0) (eCons (eV 2) (eNil)))))) (eV 2) ⟨[.v (tTT ls), s1, .no, .no], none⟩ = .ok ((bad2 ls).map nD) ⟨[.v (tTT ls), s1, .no, .no], none⟩ := by
  have h7 := h.hi
  have hf : iR1 (eCall1 gLen (sCons (eN 0) (sNil))) ⟨[.v (tTT ls), s1, .no, .no], none⟩ = .ok ((List.range ls.length).map nD) ⟨[.v (tTT ls), s1, .no, .no], none⟩ := iR1_n (by simp (config := { implicitDefEqProofs := false }) only [FL.lift_a, FL.eC_a, FL.eV_a, FL.eN_a, FL.eP_p, FL.rd_d, FL.rd_i, FL.rd_p, FL.toSrc_a, FL.e1_a, FL.e2_a, FL.eCmp_a, FL.eBool_a, FL.eChain_a, FL.eChain_t, FL.pure_a, FL.eTruth_a, FL.bNot_a, FL.bAnd_a, FL.bOr_a, FL.bYes_a, FL.eIf_a, FL.vAnd_a, FL.vOr_a, FL.asBool_a, FL.eNil_a, FL.eCons_a, FL.eTup_a, FL.eLst_a, FL.eL_a, FL.eIx_a, FL.eSl_a, FL.pNo_a, FL.pSo_a, FL.asInt_a, FL.sNil_a, FL.sCons_a, FL.rdA_n, FL.rdA_c, FL.eCall1_a, FL.eCallL_a, FL.eIsi_a, FL.eM1_a, FL.sSeq_a, FL.sSeqL_a, FL.sIfL_a, FL.sNx_a, FL.sBk_a, FL.sCt_a, FL.sRet_a, FL.sRetN_a, FL.sDrop_a, FL.sIf_a, FL.aN_a, FL.aNil_a, FL.aCons_a, FL.aTup_a, FL.aPool_0, FL.aPool_1, FL.aPool_2, FL.sSet_a, FL.sSetO_a, FL.sAsg_a, FL.sApp_a, FL.sExt_a, FL.ePop_a, FL.sStore_a, FL.aSub_a, FL.ownAt_a, FL.putAt_a, FL.sPar_a, FL.mNil_a, FL.mV_a, FL.mO_a, FL.setAll_c, FL.setAll_n, FL.eDm_a, FL.eCall_a, FL.eCallP_a, FL.eCallO_a, FL.eCallOP_a, FL.arrB_a, FL.iEn_a, FL.turn_a, FL.fnB_a, FL.fnL_a, FL.rep_s, FL.rep_z, FL.few_z, FL.few_1, FL.few_2, FL.few_3, FL.gAdd_i, FL.gSub_i, FL.cLt_i, FL.cLe_i, FL.cGt_i, FL.cGe_i, FL.cEq_i, FL.cNe_i, FL.cEq_str, FL.cNe_str, FL.eqv_b, FL.cEq_b, FL.truth_b, FL.truth_i, FL.truth_l, FL.truth_t, FL.gLen_l, FL.gLen_t, FL.gInt_i, FL.gTup_l, FL.gTup_t, FL.items_l, FL.items_t, FL.cIs_b, FL.gIx_l0, FL.gIx_l1, FL.gIx_l2, FL.gIx_t0, FL.gIx_t1, FL.gIx_t2, FL.cLt_n, FL.cLt_ni, FL.cLt_in, FL.cLe_n, FL.cLe_ni, FL.cLe_in, FL.cGt_n, FL.cGt_ni, FL.cGe_n, FL.cGe_ni, FL.cEq_n, FL.cEq_ni, FL.cEq_in, FL.cNe_n, FL.cNe_ni, FL.gAdd_n, FL.gAdd_ni, FL.gAdd_in, FL.gSub_ni, FL.gSub_nn, FL.gSub_in, FL.gInt_n, FL.cEq_tN, FL.cNe_tN, FL.cEq_lN, FL.sh_nilL, FL.sh_nilT, FL.gLen_tN, FL.gLen_tT, FL.gIx_tN, FL.gIx_tT, FL.items_tN, FL.items_tT, FL.ty_i, FL.ty_n, FL.ty_tN, FL.ty_tT, FL.kit_ii, FL.kit_ib, FL.kit_tt, FL.kit_lt, FL.same_tN, FL.same_l, FL.arr_n, FL.arr_c, List.getElem?_cons_zero, List.getElem?_cons_succ, List.set_cons_zero, List.set_cons_succ, List.length_cons, List.length_nil, List.map_cons, List.map_nil, List.cons_append, List.nil_append, Bool.not_true, Bool.not_false, if_true, if_false, Bool.false_eq_true, FL.R.bind, eq_self, and_self, decide_true, decide_false, Option.bind_some, Option.map_some, List.length_map, FL.wipeE, FL.backE]; rfl) (by omega)
  have e1 : (bad2 ls).map nD = (List.range ls.length).filterMap fun i => if (!(strg ls i).isEmpty) = true then some (nD i) else none := by
    rw [fm_if nD fun i => !(strg ls i).isEmpty]
    rfl
  rw [e1]
  refine eLc_filterA nD _ _ hf (fun i hi => ⟨[.v (tTT ls), s1, .v (nD i), .no], ?_, rfl⟩) (by rw [List.length_range, sizeLine_eq]; omega)
  have hi := List.mem_range.mp hi
  have key : ∀ (F : Fn) (b : Bool), F [tTT ls, nD i] none = .ok (.bool b) none → turnB (aN 2) (eTruth (toSrc (eCall F (eCons (eV 0) (eCons (eV 2) (eNil)))))) (eV 2) (nD i) ⟨wipeE [.v (tTT ls), s1, .no, .no] [2], none⟩ = .ok (if b = true then some (nD i) else none) ⟨[.v (tTT ls), s1, .v (nD i), .no], none⟩ := by
    intro F b hF
    cases b <;> simp (config := { implicitDefEqProofs := false }) only [FL.lift_a, FL.eC_a, FL.eV_a, FL.eN_a, FL.eP_p, FL.rd_d, FL.rd_i, FL.rd_p, FL.toSrc_a, FL.e1_a, FL.e2_a, FL.eCmp_a, FL.eBool_a, FL.eChain_a, FL.eChain_t, FL.pure_a, FL.eTruth_a, FL.bNot_a, FL.bAnd_a, FL.bOr_a, FL.bYes_a, FL.eIf_a, FL.vAnd_a, FL.vOr_a, FL.asBool_a, FL.eNil_a, FL.eCons_a, FL.eTup_a, FL.eLst_a, FL.eL_a, FL.eIx_a, FL.eSl_a, FL.pNo_a, FL.pSo_a, FL.asInt_a, FL.sNil_a, FL.sCons_a, FL.rdA_n, FL.rdA_c, FL.eCall1_a, FL.eCallL_a, FL.eIsi_a, FL.eM1_a, FL.sSeq_a, FL.sSeqL_a, FL.sIfL_a, FL.sNx_a, FL.sBk_a, FL.sCt_a, FL.sRet_a, FL.sRetN_a, FL.sDrop_a, FL.sIf_a, FL.aN_a, FL.aNil_a, FL.aCons_a, FL.aTup_a, FL.aPool_0, FL.aPool_1, FL.aPool_2, FL.sSet_a, FL.sSetO_a, FL.sAsg_a, FL.sApp_a, FL.sExt_a, FL.ePop_a, FL.sStore_a, FL.aSub_a, FL.ownAt_a, FL.putAt_a, FL.sPar_a, FL.mNil_a, FL.mV_a, FL.mO_a, FL.setAll_c, FL.setAll_n, FL.eDm_a, FL.eCall_a, FL.eCallP_a, FL.eCallO_a, FL.eCallOP_a, FL.arrB_a, FL.iEn_a, FL.turn_a, FL.fnB_a, FL.fnL_a, FL.rep_s, FL.rep_z, FL.few_z, FL.few_1, FL.few_2, FL.few_3, FL.gAdd_i, FL.gSub_i, FL.cLt_i, FL.cLe_i, FL.cGt_i, FL.cGe_i, FL.cEq_i, FL.cNe_i, FL.cEq_str, FL.cNe_str, FL.eqv_b, FL.cEq_b, FL.truth_b, FL.truth_i, FL.truth_l, FL.truth_t, FL.gLen_l, FL.gLen_t, FL.gInt_i, FL.gTup_l, FL.gTup_t, FL.items_l, FL.items_t, FL.cIs_b, FL.gIx_l0, FL.gIx_l1, FL.gIx_l2, FL.gIx_t0, FL.gIx_t1, FL.gIx_t2, FL.cLt_n, FL.cLt_ni, FL.cLt_in, FL.cLe_n, FL.cLe_ni, FL.cLe_in, FL.cGt_n, FL.cGt_ni, FL.cGe_n, FL.cGe_ni, FL.cEq_n, FL.cEq_ni, FL.cEq_in, FL.cNe_n, FL.cNe_ni, FL.gAdd_n, FL.gAdd_ni, FL.gAdd_in, FL.gSub_ni, FL.gSub_nn, FL.gSub_in, FL.gInt_n, FL.cEq_tN, FL.cNe_tN, FL.cEq_lN, FL.sh_nilL, FL.sh_nilT, FL.gLen_tN, FL.gLen_tT, FL.gIx_tN, FL.gIx_tT, FL.items_tN, FL.items_tT, FL.ty_i, FL.ty_n, FL.ty_tN, FL.ty_tT, FL.kit_ii, FL.kit_ib, FL.kit_tt, FL.kit_lt, FL.same_tN, FL.same_l, FL.arr_n, FL.arr_c, List.getElem?_cons_zero, List.getElem?_cons_succ, List.set_cons_zero, List.set_cons_succ, List.length_cons, List.length_nil, List.map_cons, List.map_nil, List.cons_append, List.nil_append, Bool.not_true, Bool.not_false, if_true, if_false, Bool.false_eq_true, FL.R.bind, eq_self, and_self, decide_true, decide_false, Option.bind_some, Option.map_some, List.length_map, FL.wipeE, FL.backE, hF]
  exact key _ _ (strangers_ok h hi)
theorem take1 {l : List Nat} : l.take 1 = [] ↔ l = [] := by cases l <;> simp
theorem sl1 (l : List Nat) : gSl none (some 1) (.list (l.map nD)) = some (.list ((l.take 1).map nD)) := by
  show some (PyData.list (FL.cut (l.map nD) none (some ((1 : Nat) : Int)))) = _
  rw [cut_hiN, ← List.map_take]
theorem wrong_ok {v : D} (hv : Val v) : ∃ ys, SeqAt.shaped (.list ys) = true ∧ f_wrong_in_book [v] none = .ok (.list ys) none ∧ (ys = [] ↔ isBk v) := by
  have ht := isi_t hv.ty
  have notT : isT v = false → ∃ ys, SeqAt.shaped (.list ys) = true ∧ f_wrong_in_book [v] none = .ok (.list ys) none ∧ (ys = [] ↔ isBk v) := by
    intro hn
    rw [hn] at ht
    refine ⟨[.none], sh_none, ?_, by simp, ?_⟩
    · have key : ∀ A B : B (List D), fnB 1 4 (sSeq (sIf (bOr (bNot (eTruth (toSrc (eIsi "tuple" (eN 0))))) (bNot (eChain cLe cLe (eC (.int 1)) (eCall1 gLen (sCons (eN 0) (sNil))) (eC (.int 7))))) (sRet (eL (eLst (eCons (eC .none) (eNil))))) (sNx)) (sSeq (sSet 1 (eL A)) (sSeq (sIf (eCmp cNe (eN 1) (toSrc (eL (eLst (eNil))))) (sRet (eSl (eN 1) (pNo) (pSo (eC (.int 1))))) (sNx)) (sRet (eSl (toSrc (eL B)) (pNo) (pSo (eC (.int 1)))))))) [v] none = .ok (.list [.none]) none := by
        intro A B
        simp (config := { implicitDefEqProofs := false }) only [FL.lift_a, FL.eC_a, FL.eV_a, FL.eN_a, FL.eP_p, FL.rd_d, FL.rd_i, FL.rd_p, FL.toSrc_a, FL.e1_a, FL.e2_a, FL.eCmp_a, FL.eBool_a, FL.eChain_a, FL.eChain_t, FL.pure_a, FL.eTruth_a, FL.bNot_a, FL.bAnd_a, FL.bOr_a, FL.bYes_a, FL.eIf_a, FL.vAnd_a, FL.vOr_a, FL.asBool_a, FL.eNil_a, FL.eCons_a, FL.eTup_a, FL.eLst_a, FL.eL_a, FL.eIx_a, FL.eSl_a, FL.pNo_a, FL.pSo_a, FL.asInt_a, FL.sNil_a, FL.sCons_a, FL.rdA_n, FL.rdA_c, FL.eCall1_a, FL.eCallL_a, FL.eIsi_a, FL.eM1_a, FL.sSeq_a, FL.sSeqL_a, FL.sIfL_a, FL.sNx_a, FL.sBk_a, FL.sCt_a, FL.sRet_a, FL.sRetN_a, FL.sDrop_a, FL.sIf_a, FL.aN_a, FL.aNil_a, FL.aCons_a, FL.aTup_a, FL.aPool_0, FL.aPool_1, FL.aPool_2, FL.sSet_a, FL.sSetO_a, FL.sAsg_a, FL.sApp_a, FL.sExt_a, FL.ePop_a, FL.sStore_a, FL.aSub_a, FL.ownAt_a, FL.putAt_a, FL.sPar_a, FL.mNil_a, FL.mV_a, FL.mO_a, FL.setAll_c, FL.setAll_n, FL.eDm_a, FL.eCall_a, FL.eCallP_a, FL.eCallO_a, FL.eCallOP_a, FL.arrB_a, FL.iEn_a, FL.turn_a, FL.fnB_a, FL.fnL_a, FL.rep_s, FL.rep_z, FL.few_z, FL.few_1, FL.few_2, FL.few_3, FL.gAdd_i, FL.gSub_i, FL.cLt_i, FL.cLe_i, FL.cGt_i, FL.cGe_i, FL.cEq_i, FL.cNe_i, FL.cEq_str, FL.cNe_str, FL.eqv_b, FL.cEq_b, FL.truth_b, FL.truth_i, FL.truth_l, FL.truth_t, FL.gLen_l, FL.gLen_t, FL.gInt_i, FL.gTup_l, FL.gTup_t, FL.items_l, FL.items_t, FL.cIs_b, FL.gIx_l0, FL.gIx_l1, FL.gIx_l2, FL.gIx_t0, FL.gIx_t1, FL.gIx_t2, FL.cLt_n, FL.cLt_ni, FL.cLt_in, FL.cLe_n, FL.cLe_ni, FL.cLe_in, FL.cGt_n, FL.cGt_ni, FL.cGe_n, FL.cGe_ni, FL.cEq_n, FL.cEq_ni, FL.cEq_in, FL.cNe_n, FL.cNe_ni, FL.gAdd_n, FL.gAdd_ni, FL.gAdd_in, FL.gSub_ni, FL.gSub_nn, FL.gSub_in, FL.gInt_n, FL.cEq_tN, FL.cNe_tN, FL.cEq_lN, FL.sh_nilL, FL.sh_nilT, FL.gLen_tN, FL.gLen_tT, FL.gIx_tN, FL.gIx_tT, FL.items_tN, FL.items_tT, FL.ty_i, FL.ty_n, FL.ty_tN, FL.ty_tT, FL.kit_ii, FL.kit_ib, FL.kit_tt, FL.kit_lt, FL.same_tN, FL.same_l, FL.arr_n, FL.arr_c, List.getElem?_cons_zero, List.getElem?_cons_succ, List.set_cons_zero, List.set_cons_succ, List.length_cons, List.length_nil, List.map_cons, List.map_nil, List.cons_append, List.nil_append, Bool.not_true, Bool.not_false, if_true, if_false, Bool.false_eq_true, FL.R.bind, eq_self, and_self, decide_true, decide_false, Option.bind_some, Option.map_some, List.length_map, FL.wipeE, FL.backE, ht]
      exact key _ _
    · rintro ⟨ls, rfl, _⟩
      cases hn
  cases v with
  | tuple ds =>
    clear notT
    obtain ⟨hl, hd⟩ := hv.its ds rfl
    have ht' : ((tyD (.tuple ds)).bind fun t => (kitB t "tuple").map PyData.bool) = some (.bool true) := ht
    have hlen : gLen [.tuple ds] = some (nD ds.length) := rfl
    by_cases hz : 1 ≤ ds.length ∧ ds.length ≤ 7
    · obtain ⟨z1, z2⟩ := hz
      have c1 : cLe (.int 1) (nD ds.length) = some true := by rw [cLe_in]; exact congrArg some (decide_eq_true (by omega))
      have c2 : cLe (nD ds.length) (.int 7) = some true := by rw [cLe_ni]; exact congrArg some (decide_eq_true (by omega))
      have hA := badC_ok (s1 := .no) hl hd
      by_cases hb : bad ds = []
      · obtain ⟨ls, rfl, hr⟩ := rows_of z1 z2 hb
        have hB := bad2C_ok (s1 := .v (.list [])) hr
        rw [hb] at hA
        have hne : cNe (.list []) (.list []) = some false := rfl
        have hs := sl1 (bad2 ls)
        refine ⟨((bad2 ls).take 1).map nD, sh_lN _, ?_, ?_⟩
        · have key : ∀ A B : B (List D), A ⟨[.v (tTT ls), .no, .no, .no], none⟩ = .ok [] ⟨[.v (tTT ls), .no, .no, .no], none⟩ → B ⟨[.v (tTT ls), .v (.list []), .no, .no], none⟩ = .ok ((bad2 ls).map nD) ⟨[.v (tTT ls), .v (.list []), .no, .no], none⟩ →
              ∀ m : Nat, gLen [tTT ls] = some (nD m) → cLe (.int 1) (nD m) = some true → cLe (nD m) (.int 7) = some true → fnB 1 4 (sSeq (sIf (bOr (bNot (eTruth (toSrc (eIsi "tuple" (eN 0))))) (bNot (eChain cLe cLe (eC (.int 1)) (eCall1 gLen (sCons (eN 0) (sNil))) (eC (.int 7))))) (sRet (eL (eLst (eCons (eC .none) (eNil))))) (sNx)) (sSeq (sSet 1 (eL A)) (sSeq (sIf (eCmp cNe (eN 1) (toSrc (eL (eLst (eNil))))) (sRet (eSl (eN 1) (pNo) (pSo (eC (.int 1))))) (sNx)) (sRet (eSl (toSrc (eL B)) (pNo) (pSo (eC (.int 1)))))))) [tTT ls] none = .ok (.list (((bad2 ls).take 1).map nD)) none := by
            intro A B hA hB m hlen c1 c2
            simp (config := { implicitDefEqProofs := false }) only [FL.lift_a, FL.eC_a, FL.eV_a, FL.eN_a, FL.eP_p, FL.rd_d, FL.rd_i, FL.rd_p, FL.toSrc_a, FL.e1_a, FL.e2_a, FL.eCmp_a, FL.eBool_a, FL.eChain_a, FL.eChain_t, FL.pure_a, FL.eTruth_a, FL.bNot_a, FL.bAnd_a, FL.bOr_a, FL.bYes_a, FL.eIf_a, FL.vAnd_a, FL.vOr_a, FL.asBool_a, FL.eNil_a, FL.eCons_a, FL.eTup_a, FL.eLst_a, FL.eL_a, FL.eIx_a, FL.eSl_a, FL.pNo_a, FL.pSo_a, FL.asInt_a, FL.sNil_a, FL.sCons_a, FL.rdA_n, FL.rdA_c, FL.eCall1_a, FL.eCallL_a, FL.eIsi_a, FL.eM1_a, FL.sSeq_a, FL.sSeqL_a, FL.sIfL_a, FL.sNx_a, FL.sBk_a, FL.sCt_a, FL.sRet_a, FL.sRetN_a, FL.sDrop_a, FL.sIf_a, FL.aN_a, FL.aNil_a, FL.aCons_a, FL.aTup_a, FL.aPool_0, FL.aPool_1, FL.aPool_2, FL.sSet_a, FL.sSetO_a, FL.sAsg_a, FL.sApp_a, FL.sExt_a, FL.ePop_a, FL.sStore_a, FL.aSub_a, FL.ownAt_a, FL.putAt_a, FL.sPar_a, FL.mNil_a, FL.mV_a, FL.mO_a, FL.setAll_c, FL.setAll_n, FL.eDm_a, FL.eCall_a, FL.eCallP_a, FL.eCallO_a, FL.eCallOP_a, FL.arrB_a, FL.iEn_a, FL.turn_a, FL.fnB_a, FL.fnL_a, FL.rep_s, FL.rep_z, FL.few_z, FL.few_1, FL.few_2, FL.few_3, FL.gAdd_i, FL.gSub_i, FL.cLt_i, FL.cLe_i, FL.cGt_i, FL.cGe_i, FL.cEq_i, FL.cNe_i, FL.cEq_str, FL.cNe_str, FL.eqv_b, FL.cEq_b, FL.truth_b, FL.truth_i, FL.truth_l, FL.truth_t, FL.gLen_l, FL.gLen_t, FL.gInt_i, FL.gTup_l, FL.gTup_t, FL.items_l, FL.items_t, FL.cIs_b, FL.gIx_l0, FL.gIx_l1, FL.gIx_l2, FL.gIx_t0, FL.gIx_t1, FL.gIx_t2, FL.cLt_n, FL.cLt_ni, FL.cLt_in, FL.cLe_n, FL.cLe_ni, FL.cLe_in, FL.cGt_n, FL.cGt_ni, FL.cGe_n, FL.cGe_ni, FL.cEq_n, FL.cEq_ni, FL.cEq_in, FL.cNe_n, FL.cNe_ni, FL.gAdd_n, FL.gAdd_ni, FL.gAdd_in, FL.gSub_ni, FL.gSub_nn, FL.gSub_in, FL.gInt_n, FL.cEq_tN, FL.cNe_tN, FL.cEq_lN, FL.sh_nilL, FL.sh_nilT, FL.gLen_tN, FL.gIx_tN, FL.gIx_tT, FL.items_tN, FL.items_tT, FL.ty_i, FL.ty_n, FL.ty_tN, FL.ty_tT, FL.kit_ii, FL.kit_ib, FL.kit_tt, FL.kit_lt, FL.same_tN, FL.same_l, FL.arr_n, FL.arr_c, List.getElem?_cons_zero, List.getElem?_cons_succ, List.set_cons_zero, List.set_cons_succ, List.length_cons, List.length_nil, List.map_cons, List.map_nil, List.cons_append, List.nil_append, Bool.not_true, Bool.not_false, if_true, if_false, Bool.false_eq_true, FL.R.bind, eq_self, and_self, decide_true, decide_false, Option.bind_some, Option.map_some, List.length_map, FL.wipeE, FL.backE, hlen, c1, c2, hA, hB, hne, hs]
          exact key _ _ hA hB _ hlen c1 c2
        · rw [List.map_eq_nil_iff, take1, bad2_nil]
          exact (isBk_rows hr).symm
      · have hne : cNe (.list ((bad ds).map nD)) (.list []) = some true := by
          rw [cNe_nil (sh_lN _)]
          cases e : bad ds with
          | nil => exact absurd e hb
          | cons _ _ => rfl
        have hs := sl1 (bad ds)
        refine ⟨((bad ds).take 1).map nD, sh_lN _, ?_, ?_, fun h => absurd (isBk_bad h) hb⟩
        · have key : ∀ A B : B (List D), A ⟨[.v (.tuple ds), .no, .no, .no], none⟩ = .ok ((bad ds).map nD) ⟨[.v (.tuple ds), .no, .no, .no], none⟩ → fnB 1 4 (sSeq (sIf (bOr (bNot (eTruth (toSrc (eIsi "tuple" (eN 0))))) (bNot (eChain cLe cLe (eC (.int 1)) (eCall1 gLen (sCons (eN 0) (sNil))) (eC (.int 7))))) (sRet (eL (eLst (eCons (eC .none) (eNil))))) (sNx)) (sSeq (sSet 1 (eL A)) (sSeq (sIf (eCmp cNe (eN 1) (toSrc (eL (eLst (eNil))))) (sRet (eSl (eN 1) (pNo) (pSo (eC (.int 1))))) (sNx)) (sRet (eSl (toSrc (eL B)) (pNo) (pSo (eC (.int 1)))))))) [.tuple ds] none = .ok (.list (((bad ds).take 1).map nD)) none := by
            intro A B hA
            simp (config := { implicitDefEqProofs := false }) only [FL.lift_a, FL.eC_a, FL.eV_a, FL.eN_a, FL.eP_p, FL.rd_d, FL.rd_i, FL.rd_p, FL.toSrc_a, FL.e1_a, FL.e2_a, FL.eCmp_a, FL.eBool_a, FL.eChain_a, FL.eChain_t, FL.pure_a, FL.eTruth_a, FL.bNot_a, FL.bAnd_a, FL.bOr_a, FL.bYes_a, FL.eIf_a, FL.vAnd_a, FL.vOr_a, FL.asBool_a, FL.eNil_a, FL.eCons_a, FL.eTup_a, FL.eLst_a, FL.eL_a, FL.eIx_a, FL.eSl_a, FL.pNo_a, FL.pSo_a, FL.asInt_a, FL.sNil_a, FL.sCons_a, FL.rdA_n, FL.rdA_c, FL.eCall1_a, FL.eCallL_a, FL.eIsi_a, FL.eM1_a, FL.sSeq_a, FL.sSeqL_a, FL.sIfL_a, FL.sNx_a, FL.sBk_a, FL.sCt_a, FL.sRet_a, FL.sRetN_a, FL.sDrop_a, FL.sIf_a, FL.aN_a, FL.aNil_a, FL.aCons_a, FL.aTup_a, FL.aPool_0, FL.aPool_1, FL.aPool_2, FL.sSet_a, FL.sSetO_a, FL.sAsg_a, FL.sApp_a, FL.sExt_a, FL.ePop_a, FL.sStore_a, FL.aSub_a, FL.ownAt_a, FL.putAt_a, FL.sPar_a, FL.mNil_a, FL.mV_a, FL.mO_a, FL.setAll_c, FL.setAll_n, FL.eDm_a, FL.eCall_a, FL.eCallP_a, FL.eCallO_a, FL.eCallOP_a, FL.arrB_a, FL.iEn_a, FL.turn_a, FL.fnB_a, FL.fnL_a, FL.rep_s, FL.rep_z, FL.few_z, FL.few_1, FL.few_2, FL.few_3, FL.gAdd_i, FL.gSub_i, FL.cLt_i, FL.cLe_i, FL.cGt_i, FL.cGe_i, FL.cEq_i, FL.cNe_i, FL.cEq_str, FL.cNe_str, FL.eqv_b, FL.cEq_b, FL.truth_b, FL.truth_i, FL.truth_l, FL.truth_t, FL.gLen_l, FL.gInt_i, FL.gTup_l, FL.gTup_t, FL.items_l, FL.items_t, FL.cIs_b, FL.gIx_l0, FL.gIx_l1, FL.gIx_l2, FL.gIx_t0, FL.gIx_t1, FL.gIx_t2, FL.cLt_n, FL.cLt_ni, FL.cLt_in, FL.cLe_n, FL.cLe_ni, FL.cLe_in, FL.cGt_n, FL.cGt_ni, FL.cGe_n, FL.cGe_ni, FL.cEq_n, FL.cEq_ni, FL.cEq_in, FL.cNe_n, FL.cNe_ni, FL.gAdd_n, FL.gAdd_ni, FL.gAdd_in, FL.gSub_ni, FL.gSub_nn, FL.gSub_in, FL.gInt_n, FL.cEq_tN, FL.cNe_tN, FL.cEq_lN, FL.sh_nilL, FL.sh_nilT, FL.gLen_tN, FL.gLen_tT, FL.gIx_tN, FL.gIx_tT, FL.items_tN, FL.items_tT, FL.ty_i, FL.ty_n, FL.kit_ii, FL.kit_ib, FL.kit_lt, FL.same_tN, FL.same_l, FL.arr_n, FL.arr_c, List.getElem?_cons_zero, List.getElem?_cons_succ, List.set_cons_zero, List.set_cons_succ, List.length_cons, List.length_nil, List.map_cons, List.map_nil, List.cons_append, List.nil_append, Bool.not_true, Bool.not_false, if_true, if_false, Bool.false_eq_true, FL.R.bind, eq_self, and_self, decide_true, decide_false, Option.bind_some, Option.map_some, List.length_map, FL.wipeE, FL.backE, ht', hlen, c1, c2, hA, hne, hs]
          exact key _ _ hA
        · rw [List.map_eq_nil_iff, take1]
          exact fun h => absurd h hb
    · refine ⟨[.none], sh_none, ?_, by simp, ?_⟩
      · have key : ∀ A B : B (List D), fnB 1 4 (sSeq (sIf (bOr (bNot (eTruth (toSrc (eIsi "tuple" (eN 0))))) (bNot (eChain cLe cLe (eC (.int 1)) (eCall1 gLen (sCons (eN 0) (sNil))) (eC (.int 7))))) (sRet (eL (eLst (eCons (eC .none) (eNil))))) (sNx)) (sSeq (sSet 1 (eL A)) (sSeq (sIf (eCmp cNe (eN 1) (toSrc (eL (eLst (eNil))))) (sRet (eSl (eN 1) (pNo) (pSo (eC (.int 1))))) (sNx)) (sRet (eSl (toSrc (eL B)) (pNo) (pSo (eC (.int 1)))))))) [.tuple ds] none = .ok (.list [.none]) none := by
          intro A B
          by_cases c1 : 1 ≤ ds.length
          · have e1 : cLe (.int 1) (nD ds.length) = some true := by rw [cLe_in]; exact congrArg some (decide_eq_true (by omega))
            have e2 : cLe (nD ds.length) (.int 7) = some false := by rw [cLe_ni]; exact congrArg some (decide_eq_false (by omega))
            simp (config := { implicitDefEqProofs := false }) only [FL.lift_a, FL.eC_a, FL.eV_a, FL.eN_a, FL.eP_p, FL.rd_d, FL.rd_i, FL.rd_p, FL.toSrc_a, FL.e1_a, FL.e2_a, FL.eCmp_a, FL.eBool_a, FL.eChain_a, FL.eChain_t, FL.pure_a, FL.eTruth_a, FL.bNot_a, FL.bAnd_a, FL.bOr_a, FL.bYes_a, FL.eIf_a, FL.vAnd_a, FL.vOr_a, FL.asBool_a, FL.eNil_a, FL.eCons_a, FL.eTup_a, FL.eLst_a, FL.eL_a, FL.eIx_a, FL.eSl_a, FL.pNo_a, FL.pSo_a, FL.asInt_a, FL.sNil_a, FL.sCons_a, FL.rdA_n, FL.rdA_c, FL.eCall1_a, FL.eCallL_a, FL.eIsi_a, FL.eM1_a, FL.sSeq_a, FL.sSeqL_a, FL.sIfL_a, FL.sNx_a, FL.sBk_a, FL.sCt_a, FL.sRet_a, FL.sRetN_a, FL.sDrop_a, FL.sIf_a, FL.aN_a, FL.aNil_a, FL.aCons_a, FL.aTup_a, FL.aPool_0, FL.aPool_1, FL.aPool_2, FL.sSet_a, FL.sSetO_a, FL.sAsg_a, FL.sApp_a, FL.sExt_a, FL.ePop_a, FL.sStore_a, FL.aSub_a, FL.ownAt_a, FL.putAt_a, FL.sPar_a, FL.mNil_a, FL.mV_a, FL.mO_a, FL.setAll_c, FL.setAll_n, FL.eDm_a, FL.eCall_a, FL.eCallP_a, FL.eCallO_a, FL.eCallOP_a, FL.arrB_a, FL.iEn_a, FL.turn_a, FL.fnB_a, FL.fnL_a, FL.rep_s, FL.rep_z, FL.few_z, FL.few_1, FL.few_2, FL.few_3, FL.gAdd_i, FL.gSub_i, FL.cLt_i, FL.cLe_i, FL.cGt_i, FL.cGe_i, FL.cEq_i, FL.cNe_i, FL.cEq_str, FL.cNe_str, FL.eqv_b, FL.cEq_b, FL.truth_b, FL.truth_i, FL.truth_l, FL.truth_t, FL.gLen_l, FL.gInt_i, FL.gTup_l, FL.gTup_t, FL.items_l, FL.items_t, FL.cIs_b, FL.gIx_l0, FL.gIx_l1, FL.gIx_l2, FL.gIx_t0, FL.gIx_t1, FL.gIx_t2, FL.cLt_n, FL.cLt_ni, FL.cLt_in, FL.cLe_n, FL.cLe_ni, FL.cLe_in, FL.cGt_n, FL.cGt_ni, FL.cGe_n, FL.cGe_ni, FL.cEq_n, FL.cEq_ni, FL.cEq_in, FL.cNe_n, FL.cNe_ni, FL.gAdd_n, FL.gAdd_ni, FL.gAdd_in, FL.gSub_ni, FL.gSub_nn, FL.gSub_in, FL.gInt_n, FL.cEq_tN, FL.cNe_tN, FL.cEq_lN, FL.sh_nilL, FL.sh_nilT, FL.gLen_tN, FL.gLen_tT, FL.gIx_tN, FL.gIx_tT, FL.items_tN, FL.items_tT, FL.ty_i, FL.ty_n, FL.kit_ii, FL.kit_ib, FL.kit_lt, FL.same_tN, FL.same_l, FL.arr_n, FL.arr_c, List.getElem?_cons_zero, List.getElem?_cons_succ, List.set_cons_zero, List.set_cons_succ, List.length_cons, List.length_nil, List.map_cons, List.map_nil, List.cons_append, List.nil_append, Bool.not_true, Bool.not_false, if_true, if_false, Bool.false_eq_true, FL.R.bind, eq_self, and_self, decide_true, decide_false, Option.bind_some, Option.map_some, List.length_map, FL.wipeE, FL.backE, ht', hlen, e1, e2]
          · have e1 : cLe (.int 1) (nD ds.length) = some false := by rw [cLe_in]; exact congrArg some (decide_eq_false (by omega))
            simp (config := { implicitDefEqProofs := false }) only [FL.lift_a, FL.eC_a, FL.eV_a, FL.eN_a, FL.eP_p, FL.rd_d, FL.rd_i, FL.rd_p, FL.toSrc_a, FL.e1_a, FL.e2_a, FL.eCmp_a, FL.eBool_a, FL.eChain_a, FL.eChain_t, FL.pure_a, FL.eTruth_a, FL.bNot_a, FL.bAnd_a, FL.bOr_a, FL.bYes_a, FL.eIf_a, FL.vAnd_a, FL.vOr_a, FL.asBool_a, FL.eNil_a, FL.eCons_a, FL.eTup_a, FL.eLst_a, FL.eL_a, FL.eIx_a, FL.eSl_a, FL.pNo_a, FL.pSo_a, FL.asInt_a, FL.sNil_a, FL.sCons_a, FL.rdA_n, FL.rdA_c, FL.eCall1_a, FL.eCallL_a, FL.eIsi_a, FL.eM1_a, FL.sSeq_a, FL.sSeqL_a, FL.sIfL_a, FL.sNx_a, FL.sBk_a, FL.sCt_a, FL.sRet_a, FL.sRetN_a, FL.sDrop_a, FL.sIf_a, FL.aN_a, FL.aNil_a, FL.aCons_a, FL.aTup_a, FL.aPool_0, FL.aPool_1, FL.aPool_2, FL.sSet_a, FL.sSetO_a, FL.sAsg_a, FL.sApp_a, FL.sExt_a, FL.ePop_a, FL.sStore_a, FL.aSub_a, FL.ownAt_a, FL.putAt_a, FL.sPar_a, FL.mNil_a, FL.mV_a, FL.mO_a, FL.setAll_c, FL.setAll_n, FL.eDm_a, FL.eCall_a, FL.eCallP_a, FL.eCallO_a, FL.eCallOP_a, FL.arrB_a, FL.iEn_a, FL.turn_a, FL.fnB_a, FL.fnL_a, FL.rep_s, FL.rep_z, FL.few_z, FL.few_1, FL.few_2, FL.few_3, FL.gAdd_i, FL.gSub_i, FL.cLt_i, FL.cLe_i, FL.cGt_i, FL.cGe_i, FL.cEq_i, FL.cNe_i, FL.cEq_str, FL.cNe_str, FL.eqv_b, FL.cEq_b, FL.truth_b, FL.truth_i, FL.truth_l, FL.truth_t, FL.gLen_l, FL.gInt_i, FL.gTup_l, FL.gTup_t, FL.items_l, FL.items_t, FL.cIs_b, FL.gIx_l0, FL.gIx_l1, FL.gIx_l2, FL.gIx_t0, FL.gIx_t1, FL.gIx_t2, FL.cLt_n, FL.cLt_ni, FL.cLt_in, FL.cLe_n, FL.cLe_ni, FL.cLe_in, FL.cGt_n, FL.cGt_ni, FL.cGe_n, FL.cGe_ni, FL.cEq_n, FL.cEq_ni, FL.cEq_in, FL.cNe_n, FL.cNe_ni, FL.gAdd_n, FL.gAdd_ni, FL.gAdd_in, FL.gSub_ni, FL.gSub_nn, FL.gSub_in, FL.gInt_n, FL.cEq_tN, FL.cNe_tN, FL.cEq_lN, FL.sh_nilL, FL.sh_nilT, FL.gLen_tN, FL.gLen_tT, FL.gIx_tN, FL.gIx_tT, FL.items_tN, FL.items_tT, FL.ty_i, FL.ty_n, FL.kit_ii, FL.kit_ib, FL.kit_lt, FL.same_tN, FL.same_l, FL.arr_n, FL.arr_c, List.getElem?_cons_zero, List.getElem?_cons_succ, List.set_cons_zero, List.set_cons_succ, List.length_cons, List.length_nil, List.map_cons, List.map_nil, List.cons_append, List.nil_append, Bool.not_true, Bool.not_false, if_true, if_false, Bool.false_eq_true, FL.R.bind, eq_self, and_self, decide_true, decide_false, Option.bind_some, Option.map_some, List.length_map, FL.wipeE, FL.backE, ht', hlen, e1]
        exact key _ _
      · rintro ⟨ls, e, hb⟩
        have e : ds = ls.map tN := by injection e
        subst e
        rw [List.length_map] at hz
        exact absurd ⟨hb.lo, hb.hi⟩ hz
  | _ => exact notT rfl
theorem is_book_ok {v : D} (hv : Val v) : ∃ b, f_is_book [v] none = .ok (.bool b) none ∧ (b = true ↔ isBk v) := by
  obtain ⟨ys, hs, hw, hi⟩ := wrong_ok hv
  refine ⟨ys.isEmpty, ?_, by rw [← hi]; simp⟩
  have hc := cEq_nil hs
  have key : ∀ F : Fn, F [v] none = .ok (.list ys) none → fnB 1 1 (sRet (eBool (eCmp cEq (toSrc (eCall F (eCons (eV 0) (eNil)))) (toSrc (eL (eLst (eNil))))))) [v] none = .ok (.bool ys.isEmpty) none := by
    intro F hF
    simp (config := { implicitDefEqProofs := false }) only [FL.lift_a, FL.eC_a, FL.eV_a, FL.eN_a, FL.eP_p, FL.rd_d, FL.rd_i, FL.rd_p, FL.toSrc_a, FL.e1_a, FL.e2_a, FL.eCmp_a, FL.eBool_a, FL.eChain_a, FL.eChain_t, FL.pure_a, FL.eTruth_a, FL.bNot_a, FL.bAnd_a, FL.bOr_a, FL.bYes_a, FL.eIf_a, FL.vAnd_a, FL.vOr_a, FL.asBool_a, FL.eNil_a, FL.eCons_a, FL.eTup_a, FL.eLst_a, FL.eL_a, FL.eIx_a, FL.eSl_a, FL.pNo_a, FL.pSo_a, FL.asInt_a, FL.sNil_a, FL.sCons_a, FL.rdA_n, FL.rdA_c, FL.eCall1_a, FL.eCallL_a, FL.eIsi_a, FL.eM1_a, FL.sSeq_a, FL.sSeqL_a, FL.sIfL_a, FL.sNx_a, FL.sBk_a, FL.sCt_a, FL.sRet_a, FL.sRetN_a, FL.sDrop_a, FL.sIf_a, FL.aN_a, FL.aNil_a, FL.aCons_a, FL.aTup_a, FL.aPool_0, FL.aPool_1, FL.aPool_2, FL.sSet_a, FL.sSetO_a, FL.sAsg_a, FL.sApp_a, FL.sExt_a, FL.ePop_a, FL.sStore_a, FL.aSub_a, FL.ownAt_a, FL.putAt_a, FL.sPar_a, FL.mNil_a, FL.mV_a, FL.mO_a, FL.setAll_c, FL.setAll_n, FL.eDm_a, FL.eCall_a, FL.eCallP_a, FL.eCallO_a, FL.eCallOP_a, FL.arrB_a, FL.iEn_a, FL.turn_a, FL.fnB_a, FL.fnL_a, FL.rep_s, FL.rep_z, FL.few_z, FL.few_1, FL.few_2, FL.few_3, FL.gAdd_i, FL.gSub_i, FL.cLt_i, FL.cLe_i, FL.cGt_i, FL.cGe_i, FL.cEq_i, FL.cNe_i, FL.cEq_str, FL.cNe_str, FL.eqv_b, FL.cEq_b, FL.truth_b, FL.truth_i, FL.truth_l, FL.truth_t, FL.gLen_l, FL.gLen_t, FL.gInt_i, FL.gTup_l, FL.gTup_t, FL.items_l, FL.items_t, FL.cIs_b, FL.gIx_l0, FL.gIx_l1, FL.gIx_l2, FL.gIx_t0, FL.gIx_t1, FL.gIx_t2, FL.cLt_n, FL.cLt_ni, FL.cLt_in, FL.cLe_n, FL.cLe_ni, FL.cLe_in, FL.cGt_n, FL.cGt_ni, FL.cGe_n, FL.cGe_ni, FL.cEq_n, FL.cEq_ni, FL.cEq_in, FL.cNe_n, FL.cNe_ni, FL.gAdd_n, FL.gAdd_ni, FL.gAdd_in, FL.gSub_ni, FL.gSub_nn, FL.gSub_in, FL.gInt_n, FL.cEq_tN, FL.cNe_tN, FL.cEq_lN, FL.sh_nilL, FL.sh_nilT, FL.gLen_tN, FL.gLen_tT, FL.gIx_tN, FL.gIx_tT, FL.items_tN, FL.items_tT, FL.ty_i, FL.ty_n, FL.ty_tN, FL.ty_tT, FL.kit_ii, FL.kit_ib, FL.kit_tt, FL.kit_lt, FL.same_tN, FL.same_l, FL.arr_n, FL.arr_c, List.getElem?_cons_zero, List.getElem?_cons_succ, List.set_cons_zero, List.set_cons_succ, List.length_cons, List.length_nil, List.map_cons, List.map_nil, List.cons_append, List.nil_append, Bool.not_true, Bool.not_false, if_true, if_false, Bool.false_eq_true, FL.R.bind, eq_self, and_self, decide_true, decide_false, Option.bind_some, Option.map_some, List.length_map, FL.wipeE, FL.backE, hF, hc]
  have key2 : ∀ F : Fn, F [v] none = .ok (.bool ys.isEmpty) none → fnB 1 1 (sRet (eCall F (eCons (eV 0) (eNil)))) [v] none = .ok (.bool ys.isEmpty) none := by
    intro F hF
    simp (config := { implicitDefEqProofs := false }) only [FL.lift_a, FL.eC_a, FL.eV_a, FL.eN_a, FL.eP_p, FL.rd_d, FL.rd_i, FL.rd_p, FL.toSrc_a, FL.e1_a, FL.e2_a, FL.eCmp_a, FL.eBool_a, FL.eChain_a, FL.eChain_t, FL.pure_a, FL.eTruth_a, FL.bNot_a, FL.bAnd_a, FL.bOr_a, FL.bYes_a, FL.eIf_a, FL.vAnd_a, FL.vOr_a, FL.asBool_a, FL.eNil_a, FL.eCons_a, FL.eTup_a, FL.eLst_a, FL.eL_a, FL.eIx_a, FL.eSl_a, FL.pNo_a, FL.pSo_a, FL.asInt_a, FL.sNil_a, FL.sCons_a, FL.rdA_n, FL.rdA_c, FL.eCall1_a, FL.eCallL_a, FL.eIsi_a, FL.eM1_a, FL.sSeq_a, FL.sSeqL_a, FL.sIfL_a, FL.sNx_a, FL.sBk_a, FL.sCt_a, FL.sRet_a, FL.sRetN_a, FL.sDrop_a, FL.sIf_a, FL.aN_a, FL.aNil_a, FL.aCons_a, FL.aTup_a, FL.aPool_0, FL.aPool_1, FL.aPool_2, FL.sSet_a, FL.sSetO_a, FL.sAsg_a, FL.sApp_a, FL.sExt_a, FL.ePop_a, FL.sStore_a, FL.aSub_a, FL.ownAt_a, FL.putAt_a, FL.sPar_a, FL.mNil_a, FL.mV_a, FL.mO_a, FL.setAll_c, FL.setAll_n, FL.eDm_a, FL.eCall_a, FL.eCallP_a, FL.eCallO_a, FL.eCallOP_a, FL.arrB_a, FL.iEn_a, FL.turn_a, FL.fnB_a, FL.fnL_a, FL.rep_s, FL.rep_z, FL.few_z, FL.few_1, FL.few_2, FL.few_3, FL.gAdd_i, FL.gSub_i, FL.cLt_i, FL.cLe_i, FL.cGt_i, FL.cGe_i, FL.cEq_i, FL.cNe_i, FL.cEq_str, FL.cNe_str, FL.eqv_b, FL.cEq_b, FL.truth_b, FL.truth_i, FL.truth_l, FL.truth_t, FL.gLen_l, FL.gLen_t, FL.gInt_i, FL.gTup_l, FL.gTup_t, FL.items_l, FL.items_t, FL.cIs_b, FL.gIx_l0, FL.gIx_l1, FL.gIx_l2, FL.gIx_t0, FL.gIx_t1, FL.gIx_t2, FL.cLt_n, FL.cLt_ni, FL.cLt_in, FL.cLe_n, FL.cLe_ni, FL.cLe_in, FL.cGt_n, FL.cGt_ni, FL.cGe_n, FL.cGe_ni, FL.cEq_n, FL.cEq_ni, FL.cEq_in, FL.cNe_n, FL.cNe_ni, FL.gAdd_n, FL.gAdd_ni, FL.gAdd_in, FL.gSub_ni, FL.gSub_nn, FL.gSub_in, FL.gInt_n, FL.cEq_tN, FL.cNe_tN, FL.cEq_lN, FL.sh_nilL, FL.sh_nilT, FL.gLen_tN, FL.gLen_tT, FL.gIx_tN, FL.gIx_tT, FL.items_tN, FL.items_tT, FL.ty_i, FL.ty_n, FL.ty_tN, FL.ty_tT, FL.kit_ii, FL.kit_ib, FL.kit_tt, FL.kit_lt, FL.same_tN, FL.same_l, FL.arr_n, FL.arr_c, List.getElem?_cons_zero, List.getElem?_cons_succ, List.set_cons_zero, List.set_cons_succ, List.length_cons, List.length_nil, List.map_cons, List.map_nil, List.cons_append, List.nil_append, Bool.not_true, Bool.not_false, if_true, if_false, Bool.false_eq_true, FL.R.bind, eq_self, and_self, decide_true, decide_false, Option.bind_some, Option.map_some, List.length_map, FL.wipeE, FL.backE, hF]
  exact key2 _ (key _ hw)
end M
set_option maxHeartbeats 4000000
/-! k03: the law's own reading, at any value. -/
namespace M
open PySem PySem.Spec PyProof.Rows L2 FL
theorem lay_filter (p : D → Bool) : ∀ es : List D, (∀ e ∈ es, Itm e) → PyData.canLayAll0 (es.filter p) = true ∧ PyData.depthAll (es.filter p) ≤ 2
  | [], _ => ⟨rfl, by simp [PyData.depthAll]⟩
  | e :: es, h => by
    obtain ⟨h1, h2⟩ := lay_filter p es fun x hx => h x (List.mem_cons_of_mem _ hx)
    have he := h e List.mem_cons_self
    rw [List.filter_cons]
    split
    · exact ⟨by simp only [PyData.canLayAll0, he.lay, h1, Bool.and_self], by have := he.dep; simp only [PyData.depthAll]; omega⟩
    · exact ⟨h1, h2⟩
theorem sh_filter {p : D → Bool} {es : List D} (h : ∀ e ∈ es, Itm e) : SeqAt.shaped (.list (es.filter p)) = true := by
  obtain ⟨h1, h2⟩ := lay_filter p es h
  unfold SeqAt.shaped
  rw [Bool.and_eq_true]
  exact ⟨by simp only [PyData.canLay0, h1], by simp only [PyData.depth]; exact decide_eq_true (by omega)⟩
theorem lwhole_d {d : D} (h : (tyD d).isSome = true) : f__law_is_whole [d] none = .ok (.bool (isI d)) none := by
  cases d with
  | dict kvs =>
    cases kvs with
    | nil => rfl
    | cons _ _ => simp [tyD] at h
  | _ => rfl
abbrev lC (F : Fn) : B (List D) := eLc (iItems (eV 2)) [3] (aN 3) (bOr (bNot (eTruth (toSrc (eCall F (eCons (eV 3) (eNil)))))) (bOr (bNot (eChain cLt cLt (e1 gNeg (eC (.int 1))) (eV 3) (eCall1 gLen (sCons (eN 0) (sNil))))) (eCmp cEq (eN 3) (eN 1)))) (eV 3)
theorem lC_ok {i : Nat} {ds es : List D} (hl : es.length ≤ 200) (h : ∀ e ∈ es, Itm e) : lC f__law_is_whole ⟨[.v (.tuple ds), .v (nD i), .v (.tuple es), .no], none⟩ = .ok (es.filter fun e => !item ds.length i e) ⟨[.v (.tuple ds), .v (nD i), .v (.tuple es), .no], none⟩ := by
  have hf : iItems (eV 2) ⟨[.v (.tuple ds), .v (nD i), .v (.tuple es), .no], none⟩ = .ok (es.map id) ⟨[.v (.tuple ds), .v (nD i), .v (.tuple es), .no], none⟩ := by
    rw [List.map_id]
    exact iItems_t rfl
  have q0 : (es.filter fun e => !item ds.length i e) = es.filterMap fun e => if (!item ds.length i e) = true then some (id e) else none := by
    rw [fm_if id fun e => !item ds.length i e, List.map_id]
  rw [q0]
  refine eLc_filterA id _ _ hf (fun e he => ⟨[.v (.tuple ds), .v (nD i), .v (.tuple es), .v e], ?_, rfl⟩) (by rw [sizeLine_eq]; omega)
  have hlen : gLen [.tuple ds] = some (nD ds.length) := rfl
  have hneg : gNeg (.int 1) = some (.int (-1)) := rfl
  have key : ∀ F : Fn, F [e] none = .ok (.bool (isI e)) none → turnB (aN 3) (bOr (bNot (eTruth (toSrc (eCall F (eCons (eV 3) (eNil)))))) (bOr (bNot (eChain cLt cLt (e1 gNeg (eC (.int 1))) (eV 3) (eCall1 gLen (sCons (eN 0) (sNil))))) (eCmp cEq (eN 3) (eN 1)))) (eV 3) e ⟨wipeE [.v (.tuple ds), .v (nD i), .v (.tuple es), .no] [3], none⟩ = .ok (if (!item ds.length i e) = true then some e else none) ⟨[.v (.tuple ds), .v (nD i), .v (.tuple es), .v e], none⟩ := by
    intro F hF
    cases e with
    | int k =>
      have hF' : F [.int k] none = .ok (.bool true) none := hF
      have g1 : cLt (.int (-1)) (.int k) = some (decide (0 ≤ k)) := by rw [cLt_i]; exact congrArg some (decide_eq_decide.mpr (by omega))
      have g2 : cLt (.int k) (nD ds.length) = some (decide (k ≤ (ds.length : Int) - 1)) := by rw [nD, cLt_i]; exact congrArg some (decide_eq_decide.mpr (by omega))
      have g3 : cEq (.int k) (nD i) = some (decide (k = (i : Int))) := cEq_i
      have e2 : item ds.length i (.int k) = (decide (0 ≤ k) && decide (k ≤ (ds.length : Int) - 1) && !decide (k = (i : Int))) := rfl
      rw [e2]
      cases c1 : decide (0 ≤ k) <;> rw [c1] at g1
      · simp (config := { implicitDefEqProofs := false }) only [FL.lift_a, FL.eC_a, FL.eV_a, FL.eN_a, FL.eP_p, FL.rd_d, FL.rd_i, FL.rd_p, FL.toSrc_a, FL.e1_a, FL.e2_a, FL.eCmp_a, FL.eBool_a, FL.eChain_a, FL.eChain_t, FL.pure_a, FL.eTruth_a, FL.bNot_a, FL.bAnd_a, FL.bOr_a, FL.bYes_a, FL.eIf_a, FL.vAnd_a, FL.vOr_a, FL.asBool_a, FL.eNil_a, FL.eCons_a, FL.eTup_a, FL.eLst_a, FL.eL_a, FL.eIx_a, FL.eSl_a, FL.pNo_a, FL.pSo_a, FL.asInt_a, FL.sNil_a, FL.sCons_a, FL.rdA_n, FL.rdA_c, FL.eCall1_a, FL.eCallL_a, FL.eIsi_a, FL.eM1_a, FL.sSeq_a, FL.sSeqL_a, FL.sIfL_a, FL.sNx_a, FL.sBk_a, FL.sCt_a, FL.sRet_a, FL.sRetN_a, FL.sDrop_a, FL.sIf_a, FL.aN_a, FL.aNil_a, FL.aCons_a, FL.aTup_a, FL.aPool_0, FL.aPool_1, FL.aPool_2, FL.sSet_a, FL.sSetO_a, FL.sAsg_a, FL.sApp_a, FL.sExt_a, FL.ePop_a, FL.sStore_a, FL.aSub_a, FL.ownAt_a, FL.putAt_a, FL.sPar_a, FL.mNil_a, FL.mV_a, FL.mO_a, FL.setAll_c, FL.setAll_n, FL.eDm_a, FL.eCall_a, FL.eCallP_a, FL.eCallO_a, FL.eCallOP_a, FL.arrB_a, FL.iEn_a, FL.turn_a, FL.fnB_a, FL.fnL_a, FL.rep_s, FL.rep_z, FL.few_z, FL.few_1, FL.few_2, FL.few_3, FL.gAdd_i, FL.gSub_i, FL.cLe_i, FL.cGt_i, FL.cGe_i, FL.cEq_i, FL.cNe_i, FL.cEq_str, FL.cNe_str, FL.eqv_b, FL.cEq_b, FL.truth_b, FL.truth_i, FL.truth_l, FL.truth_t, FL.gLen_l, FL.gInt_i, FL.gTup_l, FL.gTup_t, FL.items_l, FL.items_t, FL.cIs_b, FL.gIx_l0, FL.gIx_l1, FL.gIx_l2, FL.gIx_t0, FL.gIx_t1, FL.gIx_t2, FL.cLt_n, FL.cLt_ni, FL.cLe_n, FL.cLe_ni, FL.cLe_in, FL.cGt_n, FL.cGt_ni, FL.cGe_n, FL.cGe_ni, FL.cEq_n, FL.cEq_ni, FL.cEq_in, FL.cNe_n, FL.cNe_ni, FL.gAdd_n, FL.gAdd_ni, FL.gAdd_in, FL.gSub_ni, FL.gSub_nn, FL.gSub_in, FL.gInt_n, FL.cEq_tN, FL.cNe_tN, FL.cEq_lN, FL.sh_nilL, FL.sh_nilT, FL.gLen_tN, FL.gLen_tT, FL.gIx_tN, FL.gIx_tT, FL.items_tN, FL.items_tT, FL.ty_i, FL.ty_n, FL.ty_tN, FL.ty_tT, FL.kit_ii, FL.kit_ib, FL.kit_tt, FL.kit_lt, FL.same_tN, FL.same_l, FL.arr_n, FL.arr_c, List.getElem?_cons_zero, List.getElem?_cons_succ, List.set_cons_zero, List.set_cons_succ, List.length_cons, List.length_nil, List.map_cons, List.map_nil, List.cons_append, List.nil_append, Bool.not_true, Bool.not_false, if_true, if_false, Bool.false_eq_true, FL.R.bind, eq_self, and_self, decide_true, decide_false, Option.bind_some, Option.map_some, List.length_map, FL.wipeE, FL.backE, hF', hlen, hneg, g1]
        rfl
      · cases c2 : decide (k ≤ (ds.length : Int) - 1) <;> rw [c2] at g2
        · simp (config := { implicitDefEqProofs := false }) only [FL.lift_a, FL.eC_a, FL.eV_a, FL.eN_a, FL.eP_p, FL.rd_d, FL.rd_i, FL.rd_p, FL.toSrc_a, FL.e1_a, FL.e2_a, FL.eCmp_a, FL.eBool_a, FL.eChain_a, FL.eChain_t, FL.pure_a, FL.eTruth_a, FL.bNot_a, FL.bAnd_a, FL.bOr_a, FL.bYes_a, FL.eIf_a, FL.vAnd_a, FL.vOr_a, FL.asBool_a, FL.eNil_a, FL.eCons_a, FL.eTup_a, FL.eLst_a, FL.eL_a, FL.eIx_a, FL.eSl_a, FL.pNo_a, FL.pSo_a, FL.asInt_a, FL.sNil_a, FL.sCons_a, FL.rdA_n, FL.rdA_c, FL.eCall1_a, FL.eCallL_a, FL.eIsi_a, FL.eM1_a, FL.sSeq_a, FL.sSeqL_a, FL.sIfL_a, FL.sNx_a, FL.sBk_a, FL.sCt_a, FL.sRet_a, FL.sRetN_a, FL.sDrop_a, FL.sIf_a, FL.aN_a, FL.aNil_a, FL.aCons_a, FL.aTup_a, FL.aPool_0, FL.aPool_1, FL.aPool_2, FL.sSet_a, FL.sSetO_a, FL.sAsg_a, FL.sApp_a, FL.sExt_a, FL.ePop_a, FL.sStore_a, FL.aSub_a, FL.ownAt_a, FL.putAt_a, FL.sPar_a, FL.mNil_a, FL.mV_a, FL.mO_a, FL.setAll_c, FL.setAll_n, FL.eDm_a, FL.eCall_a, FL.eCallP_a, FL.eCallO_a, FL.eCallOP_a, FL.arrB_a, FL.iEn_a, FL.turn_a, FL.fnB_a, FL.fnL_a, FL.rep_s, FL.rep_z, FL.few_z, FL.few_1, FL.few_2, FL.few_3, FL.gAdd_i, FL.gSub_i, FL.cLe_i, FL.cGt_i, FL.cGe_i, FL.cEq_i, FL.cNe_i, FL.cEq_str, FL.cNe_str, FL.eqv_b, FL.cEq_b, FL.truth_b, FL.truth_i, FL.truth_l, FL.truth_t, FL.gLen_l, FL.gInt_i, FL.gTup_l, FL.gTup_t, FL.items_l, FL.items_t, FL.cIs_b, FL.gIx_l0, FL.gIx_l1, FL.gIx_l2, FL.gIx_t0, FL.gIx_t1, FL.gIx_t2, FL.cLt_n, FL.cLt_ni, FL.cLe_n, FL.cLe_ni, FL.cLe_in, FL.cGt_n, FL.cGt_ni, FL.cGe_n, FL.cGe_ni, FL.cEq_n, FL.cEq_ni, FL.cEq_in, FL.cNe_n, FL.cNe_ni, FL.gAdd_n, FL.gAdd_ni, FL.gAdd_in, FL.gSub_ni, FL.gSub_nn, FL.gSub_in, FL.gInt_n, FL.cEq_tN, FL.cNe_tN, FL.cEq_lN, FL.sh_nilL, FL.sh_nilT, FL.gLen_tN, FL.gLen_tT, FL.gIx_tN, FL.gIx_tT, FL.items_tN, FL.items_tT, FL.ty_i, FL.ty_n, FL.ty_tN, FL.ty_tT, FL.kit_ii, FL.kit_ib, FL.kit_tt, FL.kit_lt, FL.same_tN, FL.same_l, FL.arr_n, FL.arr_c, List.getElem?_cons_zero, List.getElem?_cons_succ, List.set_cons_zero, List.set_cons_succ, List.length_cons, List.length_nil, List.map_cons, List.map_nil, List.cons_append, List.nil_append, Bool.not_true, Bool.not_false, if_true, if_false, Bool.false_eq_true, FL.R.bind, eq_self, and_self, decide_true, decide_false, Option.bind_some, Option.map_some, List.length_map, FL.wipeE, FL.backE, hF', hlen, hneg, g1, g2]
          rfl
        · cases c3 : decide (k = (i : Int)) <;> rw [c3] at g3
          · simp (config := { implicitDefEqProofs := false }) only [FL.lift_a, FL.eC_a, FL.eV_a, FL.eN_a, FL.eP_p, FL.rd_d, FL.rd_i, FL.rd_p, FL.toSrc_a, FL.e1_a, FL.e2_a, FL.eCmp_a, FL.eBool_a, FL.eChain_a, FL.eChain_t, FL.pure_a, FL.eTruth_a, FL.bNot_a, FL.bAnd_a, FL.bOr_a, FL.bYes_a, FL.eIf_a, FL.vAnd_a, FL.vOr_a, FL.asBool_a, FL.eNil_a, FL.eCons_a, FL.eTup_a, FL.eLst_a, FL.eL_a, FL.eIx_a, FL.eSl_a, FL.pNo_a, FL.pSo_a, FL.asInt_a, FL.sNil_a, FL.sCons_a, FL.rdA_n, FL.rdA_c, FL.eCall1_a, FL.eCallL_a, FL.eIsi_a, FL.eM1_a, FL.sSeq_a, FL.sSeqL_a, FL.sIfL_a, FL.sNx_a, FL.sBk_a, FL.sCt_a, FL.sRet_a, FL.sRetN_a, FL.sDrop_a, FL.sIf_a, FL.aN_a, FL.aNil_a, FL.aCons_a, FL.aTup_a, FL.aPool_0, FL.aPool_1, FL.aPool_2, FL.sSet_a, FL.sSetO_a, FL.sAsg_a, FL.sApp_a, FL.sExt_a, FL.ePop_a, FL.sStore_a, FL.aSub_a, FL.ownAt_a, FL.putAt_a, FL.sPar_a, FL.mNil_a, FL.mV_a, FL.mO_a, FL.setAll_c, FL.setAll_n, FL.eDm_a, FL.eCall_a, FL.eCallP_a, FL.eCallO_a, FL.eCallOP_a, FL.arrB_a, FL.iEn_a, FL.turn_a, FL.fnB_a, FL.fnL_a, FL.rep_s, FL.rep_z, FL.few_z, FL.few_1, FL.few_2, FL.few_3, FL.gAdd_i, FL.gSub_i, FL.cLe_i, FL.cGt_i, FL.cGe_i, FL.cNe_i, FL.cEq_str, FL.cNe_str, FL.eqv_b, FL.cEq_b, FL.truth_b, FL.truth_i, FL.truth_l, FL.truth_t, FL.gLen_l, FL.gInt_i, FL.gTup_l, FL.gTup_t, FL.items_l, FL.items_t, FL.cIs_b, FL.gIx_l0, FL.gIx_l1, FL.gIx_l2, FL.gIx_t0, FL.gIx_t1, FL.gIx_t2, FL.cLt_n, FL.cLt_ni, FL.cLe_n, FL.cLe_ni, FL.cLe_in, FL.cGt_n, FL.cGt_ni, FL.cGe_n, FL.cGe_ni, FL.cEq_n, FL.cEq_ni, FL.cNe_n, FL.cNe_ni, FL.gAdd_n, FL.gAdd_ni, FL.gAdd_in, FL.gSub_ni, FL.gSub_nn, FL.gSub_in, FL.gInt_n, FL.cEq_tN, FL.cNe_tN, FL.cEq_lN, FL.sh_nilL, FL.sh_nilT, FL.gLen_tN, FL.gLen_tT, FL.gIx_tN, FL.gIx_tT, FL.items_tN, FL.items_tT, FL.ty_i, FL.ty_n, FL.ty_tN, FL.ty_tT, FL.kit_ii, FL.kit_ib, FL.kit_tt, FL.kit_lt, FL.same_tN, FL.same_l, FL.arr_n, FL.arr_c, List.getElem?_cons_zero, List.getElem?_cons_succ, List.set_cons_zero, List.set_cons_succ, List.length_cons, List.length_nil, List.map_cons, List.map_nil, List.cons_append, List.nil_append, Bool.not_true, Bool.not_false, if_true, if_false, Bool.false_eq_true, FL.R.bind, eq_self, and_self, decide_true, decide_false, Option.bind_some, Option.map_some, List.length_map, FL.wipeE, FL.backE, hF', hlen, hneg, g1, g2, g3]
            rfl
          · simp (config := { implicitDefEqProofs := false }) only [FL.lift_a, FL.eC_a, FL.eV_a, FL.eN_a, FL.eP_p, FL.rd_d, FL.rd_i, FL.rd_p, FL.toSrc_a, FL.e1_a, FL.e2_a, FL.eCmp_a, FL.eBool_a, FL.eChain_a, FL.eChain_t, FL.pure_a, FL.eTruth_a, FL.bNot_a, FL.bAnd_a, FL.bOr_a, FL.bYes_a, FL.eIf_a, FL.vAnd_a, FL.vOr_a, FL.asBool_a, FL.eNil_a, FL.eCons_a, FL.eTup_a, FL.eLst_a, FL.eL_a, FL.eIx_a, FL.eSl_a, FL.pNo_a, FL.pSo_a, FL.asInt_a, FL.sNil_a, FL.sCons_a, FL.rdA_n, FL.rdA_c, FL.eCall1_a, FL.eCallL_a, FL.eIsi_a, FL.eM1_a, FL.sSeq_a, FL.sSeqL_a, FL.sIfL_a, FL.sNx_a, FL.sBk_a, FL.sCt_a, FL.sRet_a, FL.sRetN_a, FL.sDrop_a, FL.sIf_a, FL.aN_a, FL.aNil_a, FL.aCons_a, FL.aTup_a, FL.aPool_0, FL.aPool_1, FL.aPool_2, FL.sSet_a, FL.sSetO_a, FL.sAsg_a, FL.sApp_a, FL.sExt_a, FL.ePop_a, FL.sStore_a, FL.aSub_a, FL.ownAt_a, FL.putAt_a, FL.sPar_a, FL.mNil_a, FL.mV_a, FL.mO_a, FL.setAll_c, FL.setAll_n, FL.eDm_a, FL.eCall_a, FL.eCallP_a, FL.eCallO_a, FL.eCallOP_a, FL.arrB_a, FL.iEn_a, FL.turn_a, FL.fnB_a, FL.fnL_a, FL.rep_s, FL.rep_z, FL.few_z, FL.few_1, FL.few_2, FL.few_3, FL.gAdd_i, FL.gSub_i, FL.cLe_i, FL.cGt_i, FL.cGe_i, FL.cNe_i, FL.cEq_str, FL.cNe_str, FL.eqv_b, FL.cEq_b, FL.truth_b, FL.truth_i, FL.truth_l, FL.truth_t, FL.gLen_l, FL.gInt_i, FL.gTup_l, FL.gTup_t, FL.items_l, FL.items_t, FL.cIs_b, FL.gIx_l0, FL.gIx_l1, FL.gIx_l2, FL.gIx_t0, FL.gIx_t1, FL.gIx_t2, FL.cLt_n, FL.cLt_ni, FL.cLe_n, FL.cLe_ni, FL.cLe_in, FL.cGt_n, FL.cGt_ni, FL.cGe_n, FL.cGe_ni, FL.cEq_n, FL.cEq_ni, FL.cNe_n, FL.cNe_ni, FL.gAdd_n, FL.gAdd_ni, FL.gAdd_in, FL.gSub_ni, FL.gSub_nn, FL.gSub_in, FL.gInt_n, FL.cEq_tN, FL.cNe_tN, FL.cEq_lN, FL.sh_nilL, FL.sh_nilT, FL.gLen_tN, FL.gLen_tT, FL.gIx_tN, FL.gIx_tT, FL.items_tN, FL.items_tT, FL.ty_i, FL.ty_n, FL.ty_tN, FL.ty_tT, FL.kit_ii, FL.kit_ib, FL.kit_tt, FL.kit_lt, FL.same_tN, FL.same_l, FL.arr_n, FL.arr_c, List.getElem?_cons_zero, List.getElem?_cons_succ, List.set_cons_zero, List.set_cons_succ, List.length_cons, List.length_nil, List.map_cons, List.map_nil, List.cons_append, List.nil_append, Bool.not_true, Bool.not_false, if_true, if_false, Bool.false_eq_true, FL.R.bind, eq_self, and_self, decide_true, decide_false, Option.bind_some, Option.map_some, List.length_map, FL.wipeE, FL.backE, hF', hlen, hneg, g1, g2, g3]
            rfl
    | _ =>
      simp only [isI] at hF
      simp (config := { implicitDefEqProofs := false }) only [FL.lift_a, FL.eC_a, FL.eV_a, FL.eN_a, FL.eP_p, FL.rd_d, FL.rd_i, FL.rd_p, FL.toSrc_a, FL.e1_a, FL.e2_a, FL.eCmp_a, FL.eBool_a, FL.eChain_a, FL.eChain_t, FL.pure_a, FL.eTruth_a, FL.bNot_a, FL.bAnd_a, FL.bOr_a, FL.bYes_a, FL.eIf_a, FL.vAnd_a, FL.vOr_a, FL.asBool_a, FL.eNil_a, FL.eCons_a, FL.eTup_a, FL.eLst_a, FL.eL_a, FL.eIx_a, FL.eSl_a, FL.pNo_a, FL.pSo_a, FL.asInt_a, FL.sNil_a, FL.sCons_a, FL.rdA_n, FL.rdA_c, FL.eCall1_a, FL.eCallL_a, FL.eIsi_a, FL.eM1_a, FL.sSeq_a, FL.sSeqL_a, FL.sIfL_a, FL.sNx_a, FL.sBk_a, FL.sCt_a, FL.sRet_a, FL.sRetN_a, FL.sDrop_a, FL.sIf_a, FL.aN_a, FL.aNil_a, FL.aCons_a, FL.aTup_a, FL.aPool_0, FL.aPool_1, FL.aPool_2, FL.sSet_a, FL.sSetO_a, FL.sAsg_a, FL.sApp_a, FL.sExt_a, FL.ePop_a, FL.sStore_a, FL.aSub_a, FL.ownAt_a, FL.putAt_a, FL.sPar_a, FL.mNil_a, FL.mV_a, FL.mO_a, FL.setAll_c, FL.setAll_n, FL.eDm_a, FL.eCall_a, FL.eCallP_a, FL.eCallO_a, FL.eCallOP_a, FL.arrB_a, FL.iEn_a, FL.turn_a, FL.fnB_a, FL.fnL_a, FL.rep_s, FL.rep_z, FL.few_z, FL.few_1, FL.few_2, FL.few_3, FL.gAdd_i, FL.gSub_i, FL.cLt_i, FL.cLe_i, FL.cGt_i, FL.cGe_i, FL.cEq_i, FL.cNe_i, FL.cEq_str, FL.cNe_str, FL.eqv_b, FL.cEq_b, FL.truth_b, FL.truth_i, FL.truth_l, FL.truth_t, FL.gLen_l, FL.gLen_t, FL.gInt_i, FL.gTup_l, FL.gTup_t, FL.items_l, FL.items_t, FL.cIs_b, FL.gIx_l0, FL.gIx_l1, FL.gIx_l2, FL.gIx_t0, FL.gIx_t1, FL.gIx_t2, FL.cLt_n, FL.cLt_ni, FL.cLt_in, FL.cLe_n, FL.cLe_ni, FL.cLe_in, FL.cGt_n, FL.cGt_ni, FL.cGe_n, FL.cGe_ni, FL.cEq_n, FL.cEq_ni, FL.cEq_in, FL.cNe_n, FL.cNe_ni, FL.gAdd_n, FL.gAdd_ni, FL.gAdd_in, FL.gSub_ni, FL.gSub_nn, FL.gSub_in, FL.gInt_n, FL.cEq_tN, FL.cNe_tN, FL.cEq_lN, FL.sh_nilL, FL.sh_nilT, FL.gLen_tN, FL.gLen_tT, FL.gIx_tN, FL.gIx_tT, FL.items_tN, FL.items_tT, FL.ty_i, FL.ty_n, FL.ty_tN, FL.ty_tT, FL.kit_ii, FL.kit_ib, FL.kit_tt, FL.kit_lt, FL.same_tN, FL.same_l, FL.arr_n, FL.arr_c, List.getElem?_cons_zero, List.getElem?_cons_succ, List.set_cons_zero, List.set_cons_succ, List.length_cons, List.length_nil, List.map_cons, List.map_nil, List.cons_append, List.nil_append, Bool.not_true, Bool.not_false, if_true, if_false, Bool.false_eq_true, FL.R.bind, eq_self, and_self, decide_true, decide_false, Option.bind_some, Option.map_some, List.length_map, FL.wipeE, FL.backE, hF, item]
  exact key _ (lwhole_d (h e he).ty)
abbrev lBody (C : B (List D)) : B Fl := sIf (bOr (bNot (eTruth (toSrc (eIsi "tuple" (eN 2))))) (bOr (eCmp cNe (toSrc (eL C)) (toSrc (eL (eLst (eNil))))) (eCmp cLt (toSrc (eLenSet (eN 2))) (toSrc (eCall1 gLen (sCons (eN 2) (sNil))))))) (sRet (eL (eLst (eCons (eV 1) (eNil))))) (sNx)
theorem lBody_ok {i : Nat} {ds : List D} {d : D} (h : RowC d) : lBody (lC f__law_is_whole) ⟨[.v (.tuple ds), .v (nD i), .v d, .no], none⟩ = .ok (if goodB ds.length i d = true then .nx else .rt (.list [nD i])) ⟨[.v (.tuple ds), .v (nD i), .v d, .no], none⟩ := by
  have ht := isi_t h.ty
  cases d with
  | tuple es =>
    obtain ⟨hl, hi⟩ := h.its es rfl
    have ht' : ((tyD (.tuple es)).bind fun t => (kitB t "tuple").map PyData.bool) = some (.bool true) := ht
    have hC := lC_ok (i := i) (ds := ds) hl hi
    have hn := cNe_nil (sh_filter (p := fun e => !item ds.length i e) hi)
    cases c : es.all (item ds.length i) with
    | false =>
      have e : goodB ds.length i (.tuple es) = false := by
        show (es.all (item ds.length i) && _) = false
        rw [c, Bool.false_and]
      rw [e]
      have e2 : (es.filter fun e => !item ds.length i e).isEmpty = false := by
        rw [List.all_eq_false] at c
        obtain ⟨x, hx, hp⟩ := c
        cases e3 : es.filter fun e => !item ds.length i e with
        | nil =>
          rw [List.filter_eq_nil_iff] at e3
          exact absurd (by simpa using hp) (e3 x hx)
        | cons _ _ => rfl
      rw [e2] at hn
      have key : ∀ C : B (List D), C ⟨[.v (.tuple ds), .v (nD i), .v (.tuple es), .no], none⟩ = .ok (es.filter fun e => !item ds.length i e) ⟨[.v (.tuple ds), .v (nD i), .v (.tuple es), .no], none⟩ → lBody C ⟨[.v (.tuple ds), .v (nD i), .v (.tuple es), .no], none⟩ = .ok (.rt (.list [nD i])) ⟨[.v (.tuple ds), .v (nD i), .v (.tuple es), .no], none⟩ := by
        intro C hC
        simp (config := { implicitDefEqProofs := false }) only [lBody, FL.lift_a, FL.eC_a, FL.eV_a, FL.eN_a, FL.eP_p, FL.rd_d, FL.rd_i, FL.rd_p, FL.toSrc_a, FL.e1_a, FL.e2_a, FL.eCmp_a, FL.eBool_a, FL.eChain_a, FL.eChain_t, FL.pure_a, FL.eTruth_a, FL.bNot_a, FL.bAnd_a, FL.bOr_a, FL.bYes_a, FL.eIf_a, FL.vAnd_a, FL.vOr_a, FL.asBool_a, FL.eNil_a, FL.eCons_a, FL.eTup_a, FL.eLst_a, FL.eL_a, FL.eIx_a, FL.eSl_a, FL.pNo_a, FL.pSo_a, FL.asInt_a, FL.sNil_a, FL.sCons_a, FL.rdA_n, FL.rdA_c, FL.eCall1_a, FL.eCallL_a, FL.eIsi_a, FL.eM1_a, FL.sSeq_a, FL.sSeqL_a, FL.sIfL_a, FL.sNx_a, FL.sBk_a, FL.sCt_a, FL.sRet_a, FL.sRetN_a, FL.sDrop_a, FL.sIf_a, FL.aN_a, FL.aNil_a, FL.aCons_a, FL.aTup_a, FL.aPool_0, FL.aPool_1, FL.aPool_2, FL.sSet_a, FL.sSetO_a, FL.sAsg_a, FL.sApp_a, FL.sExt_a, FL.ePop_a, FL.sStore_a, FL.aSub_a, FL.ownAt_a, FL.putAt_a, FL.sPar_a, FL.mNil_a, FL.mV_a, FL.mO_a, FL.setAll_c, FL.setAll_n, FL.eDm_a, FL.eCall_a, FL.eCallP_a, FL.eCallO_a, FL.eCallOP_a, FL.arrB_a, FL.iEn_a, FL.turn_a, FL.fnB_a, FL.fnL_a, FL.rep_s, FL.rep_z, FL.few_z, FL.few_1, FL.few_2, FL.few_3, FL.gAdd_i, FL.gSub_i, FL.cLt_i, FL.cLe_i, FL.cGt_i, FL.cGe_i, FL.cEq_i, FL.cNe_i, FL.cEq_str, FL.cNe_str, FL.eqv_b, FL.cEq_b, FL.truth_b, FL.truth_i, FL.truth_l, FL.truth_t, FL.gLen_l, FL.gLen_t, FL.gInt_i, FL.gTup_l, FL.gTup_t, FL.items_l, FL.items_t, FL.cIs_b, FL.gIx_l0, FL.gIx_l1, FL.gIx_l2, FL.gIx_t0, FL.gIx_t1, FL.gIx_t2, FL.cLt_n, FL.cLt_ni, FL.cLt_in, FL.cLe_n, FL.cLe_ni, FL.cLe_in, FL.cGt_n, FL.cGt_ni, FL.cGe_n, FL.cGe_ni, FL.cEq_n, FL.cEq_ni, FL.cEq_in, FL.cNe_n, FL.cNe_ni, FL.gAdd_n, FL.gAdd_ni, FL.gAdd_in, FL.gSub_ni, FL.gSub_nn, FL.gSub_in, FL.gInt_n, FL.cEq_tN, FL.cNe_tN, FL.cEq_lN, FL.sh_nilL, FL.sh_nilT, FL.gLen_tN, FL.gLen_tT, FL.gIx_tN, FL.gIx_tT, FL.items_tN, FL.items_tT, FL.ty_i, FL.ty_n, FL.kit_ii, FL.kit_ib, FL.kit_lt, FL.same_tN, FL.same_l, FL.arr_n, FL.arr_c, List.getElem?_cons_zero, List.getElem?_cons_succ, List.set_cons_zero, List.set_cons_succ, List.length_cons, List.length_nil, List.map_cons, List.map_nil, List.cons_append, List.nil_append, Bool.not_true, Bool.not_false, if_true, if_false, Bool.false_eq_true, FL.R.bind, eq_self, and_self, decide_true, decide_false, Option.bind_some, Option.map_some, List.length_map, FL.wipeE, FL.backE, ht', hC, hn]
      rw [if_neg (by decide)]
      exact key _ hC
    | true =>
      obtain ⟨l, rfl, hx⟩ := items_nat es (List.all_eq_true.mp c)
      have e : goodB ds.length i (.tuple (l.map nD)) = decide l.Nodup := by
        show ((l.map nD).all (item ds.length i) && decide (((l.map nD).map toI).Nodup)) = _
        rw [c, Bool.true_and, toI_nD]
        exact decide_eq_decide.mpr nodup_cast
      rw [e]
      have e2 : ((l.map nD).filter fun e => !item ds.length i e) = [] := by
        rw [List.filter_eq_nil_iff]
        intro x hx
        rw [List.all_eq_true] at c
        simp [c x hx]
      rw [e2] at hC
      have hl' : l.length ≤ 1000 := by rw [List.length_map] at hl; omega
      have hs := gLenSet_n hl'
      have hle := ddp_le (l.map fun k : Nat => (k : Int))
      have hnd := ddp_nd (l.map fun k : Nat => (k : Int))
      rw [nodup_cast] at hnd
      rw [List.length_map] at hle hnd
      have hlt : cLt (nD (ddp (l.map fun k : Nat => (k : Int))).length) (nD l.length) = some (!decide l.Nodup) := by
        rw [cLt_n, ← decide_not]
        refine congrArg some (decide_eq_decide.mpr ?_)
        rw [← hnd]
        omega
      revert hs hlt
      generalize (ddp (l.map fun k : Nat => (k : Int))).length = m
      intro hs hlt
      have hn0 : cNe (.list []) (.list []) = some false := rfl
      have key : ∀ C : B (List D), C ⟨[.v (.tuple ds), .v (nD i), .v (tN l), .no], none⟩ = .ok [] ⟨[.v (.tuple ds), .v (nD i), .v (tN l), .no], none⟩ → lBody C ⟨[.v (.tuple ds), .v (nD i), .v (tN l), .no], none⟩ = .ok (if decide l.Nodup = true then .nx else .rt (.list [nD i])) ⟨[.v (.tuple ds), .v (nD i), .v (tN l), .no], none⟩ := by
        intro C hC
        cases c2 : decide l.Nodup <;> rw [c2] at hlt
        · simp (config := { implicitDefEqProofs := false }) only [lBody, FL.lift_a, FL.eC_a, FL.eV_a, FL.eN_a, FL.eP_p, FL.rd_d, FL.rd_i, FL.rd_p, FL.toSrc_a, FL.e1_a, FL.e2_a, FL.eCmp_a, FL.eBool_a, FL.eChain_a, FL.eChain_t, FL.pure_a, FL.eTruth_a, FL.bNot_a, FL.bAnd_a, FL.bOr_a, FL.bYes_a, FL.eIf_a, FL.vAnd_a, FL.vOr_a, FL.asBool_a, FL.eNil_a, FL.eCons_a, FL.eTup_a, FL.eLst_a, FL.eL_a, FL.eIx_a, FL.eSl_a, FL.pNo_a, FL.pSo_a, FL.asInt_a, FL.sNil_a, FL.sCons_a, FL.rdA_n, FL.rdA_c, FL.eCall1_a, FL.eCallL_a, FL.eIsi_a, FL.eM1_a, FL.sSeq_a, FL.sSeqL_a, FL.sIfL_a, FL.sNx_a, FL.sBk_a, FL.sCt_a, FL.sRet_a, FL.sRetN_a, FL.sDrop_a, FL.sIf_a, FL.aN_a, FL.aNil_a, FL.aCons_a, FL.aTup_a, FL.aPool_0, FL.aPool_1, FL.aPool_2, FL.sSet_a, FL.sSetO_a, FL.sAsg_a, FL.sApp_a, FL.sExt_a, FL.ePop_a, FL.sStore_a, FL.aSub_a, FL.ownAt_a, FL.putAt_a, FL.sPar_a, FL.mNil_a, FL.mV_a, FL.mO_a, FL.setAll_c, FL.setAll_n, FL.eDm_a, FL.eCall_a, FL.eCallP_a, FL.eCallO_a, FL.eCallOP_a, FL.arrB_a, FL.iEn_a, FL.turn_a, FL.fnB_a, FL.fnL_a, FL.rep_s, FL.rep_z, FL.few_z, FL.few_1, FL.few_2, FL.few_3, FL.gAdd_i, FL.gSub_i, FL.cLt_i, FL.cLe_i, FL.cGt_i, FL.cGe_i, FL.cEq_i, FL.cNe_i, FL.cEq_str, FL.cNe_str, FL.eqv_b, FL.cEq_b, FL.truth_b, FL.truth_i, FL.truth_l, FL.truth_t, FL.gLen_l, FL.gLen_t, FL.gInt_i, FL.gTup_l, FL.gTup_t, FL.items_l, FL.items_t, FL.cIs_b, FL.gIx_l0, FL.gIx_l1, FL.gIx_l2, FL.gIx_t0, FL.gIx_t1, FL.gIx_t2, FL.cLt_ni, FL.cLt_in, FL.cLe_n, FL.cLe_ni, FL.cLe_in, FL.cGt_n, FL.cGt_ni, FL.cGe_n, FL.cGe_ni, FL.cEq_n, FL.cEq_ni, FL.cEq_in, FL.cNe_n, FL.cNe_ni, FL.gAdd_n, FL.gAdd_ni, FL.gAdd_in, FL.gSub_ni, FL.gSub_nn, FL.gSub_in, FL.gInt_n, FL.cEq_tN, FL.cNe_tN, FL.cEq_lN, FL.sh_nilL, FL.sh_nilT, FL.gLen_tN, FL.gLen_tT, FL.gIx_tN, FL.gIx_tT, FL.items_tN, FL.items_tT, FL.ty_i, FL.ty_n, FL.ty_tN, FL.ty_tT, FL.kit_ii, FL.kit_ib, FL.kit_tt, FL.kit_lt, FL.same_tN, FL.same_l, FL.arr_n, FL.arr_c, List.getElem?_cons_zero, List.getElem?_cons_succ, List.set_cons_zero, List.set_cons_succ, List.length_cons, List.length_nil, List.map_cons, List.map_nil, List.cons_append, List.nil_append, Bool.not_true, Bool.not_false, if_true, if_false, Bool.false_eq_true, FL.R.bind, eq_self, and_self, decide_true, decide_false, Option.bind_some, Option.map_some, List.length_map, FL.wipeE, FL.backE, hC, hn0, eLenSet_a, hs, hlt]
        · simp (config := { implicitDefEqProofs := false }) only [lBody, FL.lift_a, FL.eC_a, FL.eV_a, FL.eN_a, FL.eP_p, FL.rd_d, FL.rd_i, FL.rd_p, FL.toSrc_a, FL.e1_a, FL.e2_a, FL.eCmp_a, FL.eBool_a, FL.eChain_a, FL.eChain_t, FL.pure_a, FL.eTruth_a, FL.bNot_a, FL.bAnd_a, FL.bOr_a, FL.bYes_a, FL.eIf_a, FL.vAnd_a, FL.vOr_a, FL.asBool_a, FL.eNil_a, FL.eCons_a, FL.eTup_a, FL.eLst_a, FL.eL_a, FL.eIx_a, FL.eSl_a, FL.pNo_a, FL.pSo_a, FL.asInt_a, FL.sNil_a, FL.sCons_a, FL.rdA_n, FL.rdA_c, FL.eCall1_a, FL.eCallL_a, FL.eIsi_a, FL.eM1_a, FL.sSeq_a, FL.sSeqL_a, FL.sIfL_a, FL.sNx_a, FL.sBk_a, FL.sCt_a, FL.sRet_a, FL.sRetN_a, FL.sDrop_a, FL.sIf_a, FL.aN_a, FL.aNil_a, FL.aCons_a, FL.aTup_a, FL.aPool_0, FL.aPool_1, FL.aPool_2, FL.sSet_a, FL.sSetO_a, FL.sAsg_a, FL.sApp_a, FL.sExt_a, FL.ePop_a, FL.sStore_a, FL.aSub_a, FL.ownAt_a, FL.putAt_a, FL.sPar_a, FL.mNil_a, FL.mV_a, FL.mO_a, FL.setAll_c, FL.setAll_n, FL.eDm_a, FL.eCall_a, FL.eCallP_a, FL.eCallO_a, FL.eCallOP_a, FL.arrB_a, FL.iEn_a, FL.turn_a, FL.fnB_a, FL.fnL_a, FL.rep_s, FL.rep_z, FL.few_z, FL.few_1, FL.few_2, FL.few_3, FL.gAdd_i, FL.gSub_i, FL.cLt_i, FL.cLe_i, FL.cGt_i, FL.cGe_i, FL.cEq_i, FL.cNe_i, FL.cEq_str, FL.cNe_str, FL.eqv_b, FL.cEq_b, FL.truth_b, FL.truth_i, FL.truth_l, FL.truth_t, FL.gLen_l, FL.gLen_t, FL.gInt_i, FL.gTup_l, FL.gTup_t, FL.items_l, FL.items_t, FL.cIs_b, FL.gIx_l0, FL.gIx_l1, FL.gIx_l2, FL.gIx_t0, FL.gIx_t1, FL.gIx_t2, FL.cLt_ni, FL.cLt_in, FL.cLe_n, FL.cLe_ni, FL.cLe_in, FL.cGt_n, FL.cGt_ni, FL.cGe_n, FL.cGe_ni, FL.cEq_n, FL.cEq_ni, FL.cEq_in, FL.cNe_n, FL.cNe_ni, FL.gAdd_n, FL.gAdd_ni, FL.gAdd_in, FL.gSub_ni, FL.gSub_nn, FL.gSub_in, FL.gInt_n, FL.cEq_tN, FL.cNe_tN, FL.cEq_lN, FL.sh_nilL, FL.sh_nilT, FL.gLen_tN, FL.gLen_tT, FL.gIx_tN, FL.gIx_tT, FL.items_tN, FL.items_tT, FL.ty_i, FL.ty_n, FL.ty_tN, FL.ty_tT, FL.kit_ii, FL.kit_ib, FL.kit_tt, FL.kit_lt, FL.same_tN, FL.same_l, FL.arr_n, FL.arr_c, List.getElem?_cons_zero, List.getElem?_cons_succ, List.set_cons_zero, List.set_cons_succ, List.length_cons, List.length_nil, List.map_cons, List.map_nil, List.cons_append, List.nil_append, Bool.not_true, Bool.not_false, if_true, if_false, Bool.false_eq_true, FL.R.bind, eq_self, and_self, decide_true, decide_false, Option.bind_some, Option.map_some, List.length_map, FL.wipeE, FL.backE, hC, hn0, eLenSet_a, hs, hlt]
      exact key _ hC
  | _ =>
    have key : ∀ (C : B (List D)) (d : D), ((tyD d).bind fun t => (kitB t "tuple").map PyData.bool) = some (.bool false) → lBody C ⟨[.v (.tuple ds), .v (nD i), .v d, .no], none⟩ = .ok (.rt (.list [nD i])) ⟨[.v (.tuple ds), .v (nD i), .v d, .no], none⟩ := by
      intro C d hd
      simp (config := { implicitDefEqProofs := false }) only [lBody, FL.lift_a, FL.eC_a, FL.eV_a, FL.eN_a, FL.eP_p, FL.rd_d, FL.rd_i, FL.rd_p, FL.toSrc_a, FL.e1_a, FL.e2_a, FL.eCmp_a, FL.eBool_a, FL.eChain_a, FL.eChain_t, FL.pure_a, FL.eTruth_a, FL.bNot_a, FL.bAnd_a, FL.bOr_a, FL.bYes_a, FL.eIf_a, FL.vAnd_a, FL.vOr_a, FL.asBool_a, FL.eNil_a, FL.eCons_a, FL.eTup_a, FL.eLst_a, FL.eL_a, FL.eIx_a, FL.eSl_a, FL.pNo_a, FL.pSo_a, FL.asInt_a, FL.sNil_a, FL.sCons_a, FL.rdA_n, FL.rdA_c, FL.eCall1_a, FL.eCallL_a, FL.eIsi_a, FL.eM1_a, FL.sSeq_a, FL.sSeqL_a, FL.sIfL_a, FL.sNx_a, FL.sBk_a, FL.sCt_a, FL.sRet_a, FL.sRetN_a, FL.sDrop_a, FL.sIf_a, FL.aN_a, FL.aNil_a, FL.aCons_a, FL.aTup_a, FL.aPool_0, FL.aPool_1, FL.aPool_2, FL.sSet_a, FL.sSetO_a, FL.sAsg_a, FL.sApp_a, FL.sExt_a, FL.ePop_a, FL.sStore_a, FL.aSub_a, FL.ownAt_a, FL.putAt_a, FL.sPar_a, FL.mNil_a, FL.mV_a, FL.mO_a, FL.setAll_c, FL.setAll_n, FL.eDm_a, FL.eCall_a, FL.eCallP_a, FL.eCallO_a, FL.eCallOP_a, FL.arrB_a, FL.iEn_a, FL.turn_a, FL.fnB_a, FL.fnL_a, FL.rep_s, FL.rep_z, FL.few_z, FL.few_1, FL.few_2, FL.few_3, FL.gAdd_i, FL.gSub_i, FL.cLt_i, FL.cLe_i, FL.cGt_i, FL.cGe_i, FL.cEq_i, FL.cNe_i, FL.cEq_str, FL.cNe_str, FL.eqv_b, FL.cEq_b, FL.truth_b, FL.truth_i, FL.truth_l, FL.truth_t, FL.gLen_l, FL.gLen_t, FL.gInt_i, FL.gTup_l, FL.gTup_t, FL.items_l, FL.items_t, FL.cIs_b, FL.gIx_l0, FL.gIx_l1, FL.gIx_l2, FL.gIx_t0, FL.gIx_t1, FL.gIx_t2, FL.cLt_n, FL.cLt_ni, FL.cLt_in, FL.cLe_n, FL.cLe_ni, FL.cLe_in, FL.cGt_n, FL.cGt_ni, FL.cGe_n, FL.cGe_ni, FL.cEq_n, FL.cEq_ni, FL.cEq_in, FL.cNe_n, FL.cNe_ni, FL.gAdd_n, FL.gAdd_ni, FL.gAdd_in, FL.gSub_ni, FL.gSub_nn, FL.gSub_in, FL.gInt_n, FL.cEq_tN, FL.cNe_tN, FL.cEq_lN, FL.sh_nilL, FL.sh_nilT, FL.gLen_tN, FL.gLen_tT, FL.gIx_tN, FL.gIx_tT, FL.items_tN, FL.items_tT, FL.ty_i, FL.ty_n, FL.ty_tN, FL.ty_tT, FL.kit_ii, FL.kit_ib, FL.kit_tt, FL.kit_lt, FL.same_tN, FL.same_l, FL.arr_n, FL.arr_c, List.getElem?_cons_zero, List.getElem?_cons_succ, List.set_cons_zero, List.set_cons_succ, List.length_cons, List.length_nil, List.map_cons, List.map_nil, List.cons_append, List.nil_append, Bool.not_true, Bool.not_false, if_true, if_false, Bool.false_eq_true, FL.R.bind, eq_self, and_self, decide_true, decide_false, Option.bind_some, Option.map_some, List.length_map, FL.wipeE, FL.backE, hd]
    exact key _ _ ht
abbrev mBody : B Fl := sIf (eCmp cNe (toSrc (eL (eLc (iItems (eV 2)) [3] (aN 3) (eCmp (cIn true) (eN 1) (toSrc (eIx (eN 0) (eV 3)))) (eV 3)))) (toSrc (eL (eLst (eNil))))) (sRet (eL (eLst (eCons (eV 1) (eNil))))) (sNx)
theorem mBody_ok {ls : List (List Nat)} (h : Rows ls) {i : Nat} (hi : i < ls.length) : mBody ⟨[.v (tTT ls), .v (nD i), .v (tN (ls.getD i [])), .no], none⟩ = .ok (if strg ls i = [] then .nx else .rt (.list [nD i])) ⟨[.v (tTT ls), .v (nD i), .v (tN (ls.getD i [])), .no], none⟩ := by
  have hA : eLc (iItems (eV 2)) [3] (aN 3) (eCmp (cIn true) (eN 1) (toSrc (eIx (eN 0) (eV 3)))) (eV 3) ⟨[.v (tTT ls), .v (nD i), .v (tN (ls.getD i [])), .no], none⟩ = .ok ((strg ls i).map nD) ⟨[.v (tTT ls), .v (nD i), .v (tN (ls.getD i [])), .no], none⟩ := by
    have e1 : (strg ls i).map nD = (ls.getD i []).filterMap fun x => if (!decide (i ∈ ls.getD x [])) = true then some (nD x) else none := by
      rw [fm_if nD fun x => !decide (i ∈ ls.getD x [])]
      rfl
    rw [e1]
    refine eLc_filterA nD _ _ (iItems_t rfl) (fun x hx => ⟨[.v (tTT ls), .v (nD i), .v (tN (ls.getD i [])), .v (nD x)], ?_, rfl⟩) (by have := h.len hi; rw [sizeLine_eq]; omega)
    have hg2 := gIx_row (h.inn i hi x hx).1
    have hc := cIn_nN true i (ls.getD x [])
    simp only [if_true] at hc
    cases c : decide (i ∈ ls.getD x []) <;> rw [c] at hc
    · simp (config := { implicitDefEqProofs := false }) only [FL.lift_a, FL.eC_a, FL.eV_a, FL.eN_a, FL.eP_p, FL.rd_d, FL.rd_i, FL.rd_p, FL.toSrc_a, FL.e1_a, FL.e2_a, FL.eCmp_a, FL.eBool_a, FL.eChain_a, FL.eChain_t, FL.pure_a, FL.eTruth_a, FL.bNot_a, FL.bAnd_a, FL.bOr_a, FL.bYes_a, FL.eIf_a, FL.vAnd_a, FL.vOr_a, FL.asBool_a, FL.eNil_a, FL.eCons_a, FL.eTup_a, FL.eLst_a, FL.eL_a, FL.eIx_a, FL.eSl_a, FL.pNo_a, FL.pSo_a, FL.asInt_a, FL.sNil_a, FL.sCons_a, FL.rdA_n, FL.rdA_c, FL.eCall1_a, FL.eCallL_a, FL.eIsi_a, FL.eM1_a, FL.sSeq_a, FL.sSeqL_a, FL.sIfL_a, FL.sNx_a, FL.sBk_a, FL.sCt_a, FL.sRet_a, FL.sRetN_a, FL.sDrop_a, FL.sIf_a, FL.aN_a, FL.aNil_a, FL.aCons_a, FL.aTup_a, FL.aPool_0, FL.aPool_1, FL.aPool_2, FL.sSet_a, FL.sSetO_a, FL.sAsg_a, FL.sApp_a, FL.sExt_a, FL.ePop_a, FL.sStore_a, FL.aSub_a, FL.ownAt_a, FL.putAt_a, FL.sPar_a, FL.mNil_a, FL.mV_a, FL.mO_a, FL.setAll_c, FL.setAll_n, FL.eDm_a, FL.eCall_a, FL.eCallP_a, FL.eCallO_a, FL.eCallOP_a, FL.arrB_a, FL.iEn_a, FL.turn_a, FL.fnB_a, FL.fnL_a, FL.rep_s, FL.rep_z, FL.few_z, FL.few_1, FL.few_2, FL.few_3, FL.gAdd_i, FL.gSub_i, FL.cLt_i, FL.cLe_i, FL.cGt_i, FL.cGe_i, FL.cEq_i, FL.cNe_i, FL.cEq_str, FL.cNe_str, FL.eqv_b, FL.cEq_b, FL.truth_b, FL.truth_i, FL.truth_l, FL.truth_t, FL.gLen_l, FL.gLen_t, FL.gInt_i, FL.gTup_l, FL.gTup_t, FL.items_l, FL.items_t, FL.cIs_b, FL.gIx_l0, FL.gIx_l1, FL.gIx_l2, FL.gIx_t0, FL.gIx_t1, FL.gIx_t2, FL.cLt_n, FL.cLt_ni, FL.cLt_in, FL.cLe_n, FL.cLe_ni, FL.cLe_in, FL.cGt_n, FL.cGt_ni, FL.cGe_n, FL.cGe_ni, FL.cEq_n, FL.cEq_ni, FL.cEq_in, FL.cNe_n, FL.cNe_ni, FL.gAdd_n, FL.gAdd_ni, FL.gAdd_in, FL.gSub_ni, FL.gSub_nn, FL.gSub_in, FL.gInt_n, FL.cEq_tN, FL.cNe_tN, FL.cEq_lN, FL.sh_nilL, FL.sh_nilT, FL.gLen_tN, FL.gLen_tT, FL.gIx_tN, FL.items_tN, FL.items_tT, FL.ty_i, FL.ty_n, FL.ty_tN, FL.ty_tT, FL.kit_ii, FL.kit_ib, FL.kit_tt, FL.kit_lt, FL.same_tN, FL.same_l, FL.arr_n, FL.arr_c, List.getElem?_cons_zero, List.getElem?_cons_succ, List.set_cons_zero, List.set_cons_succ, List.length_cons, List.length_nil, List.map_cons, List.map_nil, List.cons_append, List.nil_append, Bool.not_true, Bool.not_false, if_true, if_false, Bool.false_eq_true, FL.R.bind, eq_self, and_self, decide_true, decide_false, Option.bind_some, Option.map_some, List.length_map, FL.wipeE, FL.backE, hg2, hc]
    · simp (config := { implicitDefEqProofs := false }) only [FL.lift_a, FL.eC_a, FL.eV_a, FL.eN_a, FL.eP_p, FL.rd_d, FL.rd_i, FL.rd_p, FL.toSrc_a, FL.e1_a, FL.e2_a, FL.eCmp_a, FL.eBool_a, FL.eChain_a, FL.eChain_t, FL.pure_a, FL.eTruth_a, FL.bNot_a, FL.bAnd_a, FL.bOr_a, FL.bYes_a, FL.eIf_a, FL.vAnd_a, FL.vOr_a, FL.asBool_a, FL.eNil_a, FL.eCons_a, FL.eTup_a, FL.eLst_a, FL.eL_a, FL.eIx_a, FL.eSl_a, FL.pNo_a, FL.pSo_a, FL.asInt_a, FL.sNil_a, FL.sCons_a, FL.rdA_n, FL.rdA_c, FL.eCall1_a, FL.eCallL_a, FL.eIsi_a, FL.eM1_a, FL.sSeq_a, FL.sSeqL_a, FL.sIfL_a, FL.sNx_a, FL.sBk_a, FL.sCt_a, FL.sRet_a, FL.sRetN_a, FL.sDrop_a, FL.sIf_a, FL.aN_a, FL.aNil_a, FL.aCons_a, FL.aTup_a, FL.aPool_0, FL.aPool_1, FL.aPool_2, FL.sSet_a, FL.sSetO_a, FL.sAsg_a, FL.sApp_a, FL.sExt_a, FL.ePop_a, FL.sStore_a, FL.aSub_a, FL.ownAt_a, FL.putAt_a, FL.sPar_a, FL.mNil_a, FL.mV_a, FL.mO_a, FL.setAll_c, FL.setAll_n, FL.eDm_a, FL.eCall_a, FL.eCallP_a, FL.eCallO_a, FL.eCallOP_a, FL.arrB_a, FL.iEn_a, FL.turn_a, FL.fnB_a, FL.fnL_a, FL.rep_s, FL.rep_z, FL.few_z, FL.few_1, FL.few_2, FL.few_3, FL.gAdd_i, FL.gSub_i, FL.cLt_i, FL.cLe_i, FL.cGt_i, FL.cGe_i, FL.cEq_i, FL.cNe_i, FL.cEq_str, FL.cNe_str, FL.eqv_b, FL.cEq_b, FL.truth_b, FL.truth_i, FL.truth_l, FL.truth_t, FL.gLen_l, FL.gLen_t, FL.gInt_i, FL.gTup_l, FL.gTup_t, FL.items_l, FL.items_t, FL.cIs_b, FL.gIx_l0, FL.gIx_l1, FL.gIx_l2, FL.gIx_t0, FL.gIx_t1, FL.gIx_t2, FL.cLt_n, FL.cLt_ni, FL.cLt_in, FL.cLe_n, FL.cLe_ni, FL.cLe_in, FL.cGt_n, FL.cGt_ni, FL.cGe_n, FL.cGe_ni, FL.cEq_n, FL.cEq_ni, FL.cEq_in, FL.cNe_n, FL.cNe_ni, FL.gAdd_n, FL.gAdd_ni, FL.gAdd_in, FL.gSub_ni, FL.gSub_nn, FL.gSub_in, FL.gInt_n, FL.cEq_tN, FL.cNe_tN, FL.cEq_lN, FL.sh_nilL, FL.sh_nilT, FL.gLen_tN, FL.gLen_tT, FL.gIx_tN, FL.items_tN, FL.items_tT, FL.ty_i, FL.ty_n, FL.ty_tN, FL.ty_tT, FL.kit_ii, FL.kit_ib, FL.kit_tt, FL.kit_lt, FL.same_tN, FL.same_l, FL.arr_n, FL.arr_c, List.getElem?_cons_zero, List.getElem?_cons_succ, List.set_cons_zero, List.set_cons_succ, List.length_cons, List.length_nil, List.map_cons, List.map_nil, List.cons_append, List.nil_append, Bool.not_true, Bool.not_false, if_true, if_false, Bool.false_eq_true, FL.R.bind, eq_self, and_self, decide_true, decide_false, Option.bind_some, Option.map_some, List.length_map, FL.wipeE, FL.backE, hg2, hc]
  have hn := cNe_nil (sh_lN (strg ls i))
  have key : ∀ A : B (List D), A ⟨[.v (tTT ls), .v (nD i), .v (tN (ls.getD i [])), .no], none⟩ = .ok ((strg ls i).map nD) ⟨[.v (tTT ls), .v (nD i), .v (tN (ls.getD i [])), .no], none⟩ → sIf (eCmp cNe (toSrc (eL A)) (toSrc (eL (eLst (eNil))))) (sRet (eL (eLst (eCons (eV 1) (eNil))))) (sNx) ⟨[.v (tTT ls), .v (nD i), .v (tN (ls.getD i [])), .no], none⟩ = .ok (if strg ls i = [] then .nx else .rt (.list [nD i])) ⟨[.v (tTT ls), .v (nD i), .v (tN (ls.getD i [])), .no], none⟩ := by
    intro A hA
    by_cases c : strg ls i = []
    · rw [c] at hn hA
      have hn' : cNe (.list ([].map nD)) (.list []) = some false := rfl
      simp (config := { implicitDefEqProofs := false }) only [FL.lift_a, FL.eC_a, FL.eV_a, FL.eN_a, FL.eP_p, FL.rd_d, FL.rd_i, FL.rd_p, FL.toSrc_a, FL.e1_a, FL.e2_a, FL.eCmp_a, FL.eBool_a, FL.eChain_a, FL.eChain_t, FL.pure_a, FL.eTruth_a, FL.bNot_a, FL.bAnd_a, FL.bOr_a, FL.bYes_a, FL.eIf_a, FL.vAnd_a, FL.vOr_a, FL.asBool_a, FL.eNil_a, FL.eCons_a, FL.eTup_a, FL.eLst_a, FL.eL_a, FL.eIx_a, FL.eSl_a, FL.pNo_a, FL.pSo_a, FL.asInt_a, FL.sNil_a, FL.sCons_a, FL.rdA_n, FL.rdA_c, FL.eCall1_a, FL.eCallL_a, FL.eIsi_a, FL.eM1_a, FL.sSeq_a, FL.sSeqL_a, FL.sIfL_a, FL.sNx_a, FL.sBk_a, FL.sCt_a, FL.sRet_a, FL.sRetN_a, FL.sDrop_a, FL.sIf_a, FL.aN_a, FL.aNil_a, FL.aCons_a, FL.aTup_a, FL.aPool_0, FL.aPool_1, FL.aPool_2, FL.sSet_a, FL.sSetO_a, FL.sAsg_a, FL.sApp_a, FL.sExt_a, FL.ePop_a, FL.sStore_a, FL.aSub_a, FL.ownAt_a, FL.putAt_a, FL.sPar_a, FL.mNil_a, FL.mV_a, FL.mO_a, FL.setAll_c, FL.setAll_n, FL.eDm_a, FL.eCall_a, FL.eCallP_a, FL.eCallO_a, FL.eCallOP_a, FL.arrB_a, FL.iEn_a, FL.turn_a, FL.fnB_a, FL.fnL_a, FL.rep_s, FL.rep_z, FL.few_z, FL.few_1, FL.few_2, FL.few_3, FL.gAdd_i, FL.gSub_i, FL.cLt_i, FL.cLe_i, FL.cGt_i, FL.cGe_i, FL.cEq_i, FL.cNe_i, FL.cEq_str, FL.cNe_str, FL.eqv_b, FL.cEq_b, FL.truth_b, FL.truth_i, FL.truth_l, FL.truth_t, FL.gLen_l, FL.gLen_t, FL.gInt_i, FL.gTup_l, FL.gTup_t, FL.items_l, FL.items_t, FL.cIs_b, FL.gIx_l0, FL.gIx_l1, FL.gIx_l2, FL.gIx_t0, FL.gIx_t1, FL.gIx_t2, FL.cLt_n, FL.cLt_ni, FL.cLt_in, FL.cLe_n, FL.cLe_ni, FL.cLe_in, FL.cGt_n, FL.cGt_ni, FL.cGe_n, FL.cGe_ni, FL.cEq_n, FL.cEq_ni, FL.cEq_in, FL.cNe_n, FL.cNe_ni, FL.gAdd_n, FL.gAdd_ni, FL.gAdd_in, FL.gSub_ni, FL.gSub_nn, FL.gSub_in, FL.gInt_n, FL.cEq_tN, FL.cNe_tN, FL.cEq_lN, FL.sh_nilL, FL.sh_nilT, FL.gLen_tN, FL.gLen_tT, FL.gIx_tN, FL.gIx_tT, FL.items_tN, FL.items_tT, FL.ty_i, FL.ty_n, FL.ty_tN, FL.ty_tT, FL.kit_ii, FL.kit_ib, FL.kit_tt, FL.kit_lt, FL.same_tN, FL.same_l, FL.arr_n, FL.arr_c, List.getElem?_cons_zero, List.getElem?_cons_succ, List.set_cons_zero, List.set_cons_succ, List.length_cons, List.length_nil, List.map_cons, List.cons_append, List.nil_append, Bool.not_true, Bool.not_false, if_true, if_false, Bool.false_eq_true, FL.R.bind, eq_self, and_self, decide_true, decide_false, Option.bind_some, Option.map_some, List.length_map, FL.wipeE, FL.backE, hA, hn', c]
    · have e : ((strg ls i).map nD).isEmpty = false := by
        cases e2 : strg ls i with
        | nil => exact absurd e2 c
        | cons _ _ => rfl
      rw [e] at hn
      simp (config := { implicitDefEqProofs := false }) only [FL.lift_a, FL.eC_a, FL.eV_a, FL.eN_a, FL.eP_p, FL.rd_d, FL.rd_i, FL.rd_p, FL.toSrc_a, FL.e1_a, FL.e2_a, FL.eCmp_a, FL.eBool_a, FL.eChain_a, FL.eChain_t, FL.pure_a, FL.eTruth_a, FL.bNot_a, FL.bAnd_a, FL.bOr_a, FL.bYes_a, FL.eIf_a, FL.vAnd_a, FL.vOr_a, FL.asBool_a, FL.eNil_a, FL.eCons_a, FL.eTup_a, FL.eLst_a, FL.eL_a, FL.eIx_a, FL.eSl_a, FL.pNo_a, FL.pSo_a, FL.asInt_a, FL.sNil_a, FL.sCons_a, FL.rdA_n, FL.rdA_c, FL.eCall1_a, FL.eCallL_a, FL.eIsi_a, FL.eM1_a, FL.sSeq_a, FL.sSeqL_a, FL.sIfL_a, FL.sNx_a, FL.sBk_a, FL.sCt_a, FL.sRet_a, FL.sRetN_a, FL.sDrop_a, FL.sIf_a, FL.aN_a, FL.aNil_a, FL.aCons_a, FL.aTup_a, FL.aPool_0, FL.aPool_1, FL.aPool_2, FL.sSet_a, FL.sSetO_a, FL.sAsg_a, FL.sApp_a, FL.sExt_a, FL.ePop_a, FL.sStore_a, FL.aSub_a, FL.ownAt_a, FL.putAt_a, FL.sPar_a, FL.mNil_a, FL.mV_a, FL.mO_a, FL.setAll_c, FL.setAll_n, FL.eDm_a, FL.eCall_a, FL.eCallP_a, FL.eCallO_a, FL.eCallOP_a, FL.arrB_a, FL.iEn_a, FL.turn_a, FL.fnB_a, FL.fnL_a, FL.rep_s, FL.rep_z, FL.few_z, FL.few_1, FL.few_2, FL.few_3, FL.gAdd_i, FL.gSub_i, FL.cLt_i, FL.cLe_i, FL.cGt_i, FL.cGe_i, FL.cEq_i, FL.cNe_i, FL.cEq_str, FL.cNe_str, FL.eqv_b, FL.cEq_b, FL.truth_b, FL.truth_i, FL.truth_l, FL.truth_t, FL.gLen_l, FL.gLen_t, FL.gInt_i, FL.gTup_l, FL.gTup_t, FL.items_l, FL.items_t, FL.cIs_b, FL.gIx_l0, FL.gIx_l1, FL.gIx_l2, FL.gIx_t0, FL.gIx_t1, FL.gIx_t2, FL.cLt_n, FL.cLt_ni, FL.cLt_in, FL.cLe_n, FL.cLe_ni, FL.cLe_in, FL.cGt_n, FL.cGt_ni, FL.cGe_n, FL.cGe_ni, FL.cEq_n, FL.cEq_ni, FL.cEq_in, FL.cNe_n, FL.cNe_ni, FL.gAdd_n, FL.gAdd_ni, FL.gAdd_in, FL.gSub_ni, FL.gSub_nn, FL.gSub_in, FL.gInt_n, FL.cEq_tN, FL.cNe_tN, FL.cEq_lN, FL.sh_nilL, FL.sh_nilT, FL.gLen_tN, FL.gLen_tT, FL.gIx_tN, FL.gIx_tT, FL.items_tN, FL.items_tT, FL.ty_i, FL.ty_n, FL.ty_tN, FL.ty_tT, FL.kit_ii, FL.kit_ib, FL.kit_tt, FL.kit_lt, FL.same_tN, FL.same_l, FL.arr_n, FL.arr_c, List.getElem?_cons_zero, List.getElem?_cons_succ, List.set_cons_zero, List.set_cons_succ, List.length_cons, List.length_nil, List.map_cons, List.map_nil, List.cons_append, List.nil_append, Bool.not_true, Bool.not_false, if_true, if_false, Bool.false_eq_true, FL.R.bind, eq_self, and_self, decide_true, decide_false, Option.bind_some, Option.map_some, List.length_map, FL.wipeE, FL.backE, hA, hn, c]
  exact key _ hA
theorem law_wrong_ok {v : D} (hv : Val v) : ∃ zs, SeqAt.shaped (.list zs) = true ∧ f__law_wrong_book [v] none = .ok (.list zs) none ∧ (zs = [] ↔ isBk v) := by
  have ht := isi_t hv.ty
  have notT : isT v = false → ∃ zs, SeqAt.shaped (.list zs) = true ∧ f__law_wrong_book [v] none = .ok (.list zs) none ∧ (zs = [] ↔ isBk v) := by
    intro hn
    rw [hn] at ht
    refine ⟨[.none], sh_none, ?_, by simp, ?_⟩
    · have key : ∀ A B : B Fl, fnB 1 4 (sSeq (sIf (bOr (bNot (eTruth (toSrc (eIsi "tuple" (eN 0))))) (bNot (eChain cLt cLt (eC (.int 0)) (eCall1 gLen (sCons (eN 0) (sNil))) (eC (.int 8))))) (sRet (eL (eLst (eCons (eC .none) (eNil))))) (sNx)) (sSeq A (sSeq B (sRet (eL (eLst (eNil))))))) [v] none = .ok (.list [.none]) none := by
        intro A B
        simp (config := { implicitDefEqProofs := false }) only [FL.lift_a, FL.eC_a, FL.eV_a, FL.eN_a, FL.eP_p, FL.rd_d, FL.rd_i, FL.rd_p, FL.toSrc_a, FL.e1_a, FL.e2_a, FL.eCmp_a, FL.eBool_a, FL.eChain_a, FL.eChain_t, FL.pure_a, FL.eTruth_a, FL.bNot_a, FL.bAnd_a, FL.bOr_a, FL.bYes_a, FL.eIf_a, FL.vAnd_a, FL.vOr_a, FL.asBool_a, FL.eNil_a, FL.eCons_a, FL.eTup_a, FL.eLst_a, FL.eL_a, FL.eIx_a, FL.eSl_a, FL.pNo_a, FL.pSo_a, FL.asInt_a, FL.sNil_a, FL.sCons_a, FL.rdA_n, FL.rdA_c, FL.eCall1_a, FL.eCallL_a, FL.eIsi_a, FL.eM1_a, FL.sSeq_a, FL.sSeqL_a, FL.sIfL_a, FL.sNx_a, FL.sBk_a, FL.sCt_a, FL.sRet_a, FL.sRetN_a, FL.sDrop_a, FL.sIf_a, FL.aN_a, FL.aNil_a, FL.aCons_a, FL.aTup_a, FL.aPool_0, FL.aPool_1, FL.aPool_2, FL.sSet_a, FL.sSetO_a, FL.sAsg_a, FL.sApp_a, FL.sExt_a, FL.ePop_a, FL.sStore_a, FL.aSub_a, FL.ownAt_a, FL.putAt_a, FL.sPar_a, FL.mNil_a, FL.mV_a, FL.mO_a, FL.setAll_c, FL.setAll_n, FL.eDm_a, FL.eCall_a, FL.eCallP_a, FL.eCallO_a, FL.eCallOP_a, FL.arrB_a, FL.iEn_a, FL.turn_a, FL.fnB_a, FL.fnL_a, FL.rep_s, FL.rep_z, FL.few_z, FL.few_1, FL.few_2, FL.few_3, FL.gAdd_i, FL.gSub_i, FL.cLt_i, FL.cLe_i, FL.cGt_i, FL.cGe_i, FL.cEq_i, FL.cNe_i, FL.cEq_str, FL.cNe_str, FL.eqv_b, FL.cEq_b, FL.truth_b, FL.truth_i, FL.truth_l, FL.truth_t, FL.gLen_l, FL.gLen_t, FL.gInt_i, FL.gTup_l, FL.gTup_t, FL.items_l, FL.items_t, FL.cIs_b, FL.gIx_l0, FL.gIx_l1, FL.gIx_l2, FL.gIx_t0, FL.gIx_t1, FL.gIx_t2, FL.cLt_n, FL.cLt_ni, FL.cLt_in, FL.cLe_n, FL.cLe_ni, FL.cLe_in, FL.cGt_n, FL.cGt_ni, FL.cGe_n, FL.cGe_ni, FL.cEq_n, FL.cEq_ni, FL.cEq_in, FL.cNe_n, FL.cNe_ni, FL.gAdd_n, FL.gAdd_ni, FL.gAdd_in, FL.gSub_ni, FL.gSub_nn, FL.gSub_in, FL.gInt_n, FL.cEq_tN, FL.cNe_tN, FL.cEq_lN, FL.sh_nilL, FL.sh_nilT, FL.gLen_tN, FL.gLen_tT, FL.gIx_tN, FL.gIx_tT, FL.items_tN, FL.items_tT, FL.ty_i, FL.ty_n, FL.ty_tN, FL.ty_tT, FL.kit_ii, FL.kit_ib, FL.kit_tt, FL.kit_lt, FL.same_tN, FL.same_l, FL.arr_n, FL.arr_c, List.getElem?_cons_zero, List.getElem?_cons_succ, List.set_cons_zero, List.set_cons_succ, List.length_cons, List.length_nil, List.map_cons, List.map_nil, List.cons_append, List.nil_append, Bool.not_true, Bool.not_false, if_true, if_false, Bool.false_eq_true, FL.R.bind, eq_self, and_self, decide_true, decide_false, Option.bind_some, Option.map_some, List.length_map, FL.wipeE, FL.backE, ht]
      exact key _ _
    · rintro ⟨ls, rfl, _⟩
      cases hn
  cases v with
  | tuple ds =>
    clear notT
    obtain ⟨hl, hd⟩ := hv.its ds rfl
    have ht' : ((tyD (.tuple ds)).bind fun t => (kitB t "tuple").map PyData.bool) = some (.bool true) := ht
    have hlen : gLen [.tuple ds] = some (nD ds.length) := rfl
    by_cases hz : 1 ≤ ds.length ∧ ds.length ≤ 7
    · obtain ⟨z1, z2⟩ := hz
      have c1 : cLt (.int 0) (nD ds.length) = some true := by rw [cLt_in]; exact congrArg some (decide_eq_true (by omega))
      have c2 : cLt (nD ds.length) (.int 8) = some true := by rw [cLt_ni]; exact congrArg some (decide_eq_true (by omega))
      have hf : iEn (eV 0) ⟨[.v (.tuple ds), .no, .no, .no], none⟩ = .ok ((ds.zipIdx).map fun x => .tuple [nD x.2, x.1]) ⟨[.v (.tuple ds), .no, .no, .no], none⟩ := by
        have := enumD_zip id ds 0
        rw [List.map_id] at this
        have e : ((ds.zipIdx).map fun x => PyData.tuple [nD x.2, x.1]) = enumD 0 ds := this.symm
        rw [e]
        rfl
      have zmem : ∀ {i : Nat} {x : D × Nat}, (ds.zipIdx)[i]? = some x → x.2 = i ∧ ds[i]? = some x.1 := by
        intro i x hx
        rw [List.getElem?_zipIdx] at hx
        obtain ⟨z, hz, e⟩ := Option.map_eq_some_iff.mp hx
        subst e
        exact ⟨by simp, hz⟩
      rcases sFor_find (fun x : D × Nat => PyData.tuple [nD x.2, x.1]) ds.zipIdx (fun _ x => !goodB ds.length x.2 x.1) (fun _ x => .list [nD x.2]) (fun s => ∃ s1 s2, s = ⟨[.v (.tuple ds), s1, s2, .no], none⟩) (fun s => s.pool = none) (a := aTup (aCons (aN 1) (aCons (aN 2) (aNil)))) (g := lBody (lC f__law_is_whole)) hf ⟨_, _, rfl⟩
        (fun i x s hx hs => by
          obtain ⟨s1, s2, rfl⟩ := hs
          have hr := hd x.1 (List.mem_of_getElem? (zmem hx).2)
          have hb := lBody_ok (i := x.2) (ds := ds) hr
          refine ⟨_, ⟨[.v (.tuple ds), .v (nD x.2), .v x.1, .no], none⟩, rfl, fun hp => ⟨?_, rfl⟩, fun hp => ⟨?_, _, _, rfl⟩⟩
          · have hp : goodB ds.length x.2 x.1 = false := by simpa using hp
            rw [hp, if_neg (by decide)] at hb
            exact hb
          · have hp : goodB ds.length x.2 x.1 = true := by simpa using hp
            rw [hp, if_pos rfl] at hb
            exact hb) with ⟨i, x, s', hx, hp, hF, hJ⟩ | ⟨hall, s', hF, s1, s2, rfl⟩
      · refine ⟨[nD x.2], sh_lN [x.2], ?_, by simp, fun h => ?_⟩
        · have key : ∀ A B : B Fl, A ⟨[.v (.tuple ds), .no, .no, .no], none⟩ = .ok (.rt (.list [nD x.2])) s' → fnB 1 4 (sSeq (sIf (bOr (bNot (eTruth (toSrc (eIsi "tuple" (eN 0))))) (bNot (eChain cLt cLt (eC (.int 0)) (eCall1 gLen (sCons (eN 0) (sNil))) (eC (.int 8))))) (sRet (eL (eLst (eCons (eC .none) (eNil))))) (sNx)) (sSeq A (sSeq B (sRet (eL (eLst (eNil))))))) [.tuple ds] none = .ok (.list [nD x.2]) none := by
            intro A B hA
            simp (config := { implicitDefEqProofs := false }) only [FL.lift_a, FL.eC_a, FL.eV_a, FL.eN_a, FL.eP_p, FL.rd_d, FL.rd_i, FL.rd_p, FL.toSrc_a, FL.e1_a, FL.e2_a, FL.eCmp_a, FL.eBool_a, FL.eChain_a, FL.eChain_t, FL.pure_a, FL.eTruth_a, FL.bNot_a, FL.bAnd_a, FL.bOr_a, FL.bYes_a, FL.eIf_a, FL.vAnd_a, FL.vOr_a, FL.asBool_a, FL.eNil_a, FL.eCons_a, FL.eTup_a, FL.eLst_a, FL.eL_a, FL.eIx_a, FL.eSl_a, FL.pNo_a, FL.pSo_a, FL.asInt_a, FL.sNil_a, FL.sCons_a, FL.rdA_n, FL.rdA_c, FL.eCall1_a, FL.eCallL_a, FL.eIsi_a, FL.eM1_a, FL.sSeq_a, FL.sSeqL_a, FL.sIfL_a, FL.sNx_a, FL.sBk_a, FL.sCt_a, FL.sRet_a, FL.sRetN_a, FL.sDrop_a, FL.sIf_a, FL.aN_a, FL.aNil_a, FL.aCons_a, FL.aTup_a, FL.aPool_0, FL.aPool_1, FL.aPool_2, FL.sSet_a, FL.sSetO_a, FL.sAsg_a, FL.sApp_a, FL.sExt_a, FL.ePop_a, FL.sStore_a, FL.aSub_a, FL.ownAt_a, FL.putAt_a, FL.sPar_a, FL.mNil_a, FL.mV_a, FL.mO_a, FL.setAll_c, FL.setAll_n, FL.eDm_a, FL.eCall_a, FL.eCallP_a, FL.eCallO_a, FL.eCallOP_a, FL.arrB_a, FL.iEn_a, FL.turn_a, FL.fnB_a, FL.fnL_a, FL.rep_s, FL.rep_z, FL.few_z, FL.few_1, FL.few_2, FL.few_3, FL.gAdd_i, FL.gSub_i, FL.cLt_i, FL.cLe_i, FL.cGt_i, FL.cGe_i, FL.cEq_i, FL.cNe_i, FL.cEq_str, FL.cNe_str, FL.eqv_b, FL.cEq_b, FL.truth_b, FL.truth_i, FL.truth_l, FL.truth_t, FL.gLen_l, FL.gInt_i, FL.gTup_l, FL.gTup_t, FL.items_l, FL.items_t, FL.cIs_b, FL.gIx_l0, FL.gIx_l1, FL.gIx_l2, FL.gIx_t0, FL.gIx_t1, FL.gIx_t2, FL.cLt_n, FL.cLt_ni, FL.cLt_in, FL.cLe_n, FL.cLe_ni, FL.cLe_in, FL.cGt_n, FL.cGt_ni, FL.cGe_n, FL.cGe_ni, FL.cEq_n, FL.cEq_ni, FL.cEq_in, FL.cNe_n, FL.cNe_ni, FL.gAdd_n, FL.gAdd_ni, FL.gAdd_in, FL.gSub_ni, FL.gSub_nn, FL.gSub_in, FL.gInt_n, FL.cEq_tN, FL.cNe_tN, FL.cEq_lN, FL.sh_nilL, FL.sh_nilT, FL.gLen_tN, FL.gLen_tT, FL.gIx_tN, FL.gIx_tT, FL.items_tN, FL.items_tT, FL.ty_i, FL.ty_n, FL.kit_ii, FL.kit_ib, FL.kit_lt, FL.same_tN, FL.same_l, FL.arr_n, FL.arr_c, List.getElem?_cons_zero, List.getElem?_cons_succ, List.set_cons_zero, List.set_cons_succ, List.length_cons, List.length_nil, List.map_cons, List.map_nil, List.cons_append, List.nil_append, Bool.not_true, Bool.not_false, if_true, if_false, Bool.false_eq_true, FL.R.bind, eq_self, and_self, decide_true, decide_false, Option.bind_some, Option.map_some, List.length_map, FL.wipeE, FL.backE, ht', hlen, c1, c2, hA, hJ]
          exact key _ _ hF
        · have := isBk_bad h
          have := bad_nil this i x.1 (zmem hx).2
          rw [(zmem hx).1, this] at hp
          cases hp
      · have hb : bad ds = [] := by
          apply Classical.byContradiction
          intro hne
          obtain ⟨i, d, hdi, hg⟩ := bad_ne hne
          have := hall i (d, i) (by rw [List.getElem?_zipIdx, hdi]; simp)
          simp [hg] at this
        obtain ⟨ls, rfl, hr⟩ := rows_of z1 z2 hb
        have hf2 : iEn (eV 0) ⟨[.v (tTT ls), s1, s2, .no], none⟩ = .ok ((List.range ls.length).map fun i => .tuple [nD i, tN (ls.getD i [])]) ⟨[.v (tTT ls), s1, s2, .no], none⟩ := by
          rw [← enumD_rg]
          rfl
        rcases sFor_find (fun i : Nat => PyData.tuple [nD i, tN (ls.getD i [])]) (List.range ls.length) (fun _ i => !(strg ls i).isEmpty) (fun _ i => .list [nD i]) (fun s => ∃ s1 s2, s = ⟨[.v (tTT ls), s1, s2, .no], none⟩) (fun s => s.pool = none) (a := aTup (aCons (aN 1) (aCons (aN 2) (aNil)))) (g := mBody) hf2 ⟨_, _, rfl⟩
          (fun i x s hx hs => by
            obtain ⟨t1, t2, rfl⟩ := hs
            have hxl : x < ls.length := List.mem_range.mp (List.mem_of_getElem? hx)
            have hb := mBody_ok hr hxl
            refine ⟨_, ⟨[.v (tTT ls), .v (nD x), .v (tN (ls.getD x [])), .no], none⟩, rfl, fun hp => ⟨?_, rfl⟩, fun hp => ⟨?_, _, _, rfl⟩⟩
            · have hp : ¬ strg ls x = [] := by simpa using hp
              rw [if_neg hp] at hb
              exact hb
            · have hp : strg ls x = [] := by simpa using hp
              rw [if_pos hp] at hb
              exact hb) with ⟨i, x, s', hx, hp, hF2, hJ⟩ | ⟨hall2, s', hF2, t1, t2, rfl⟩
        · refine ⟨[nD x], sh_lN [x], ?_, by simp, fun h => ?_⟩
          · have key : ∀ A B : B Fl, A ⟨[.v (tTT ls), .no, .no, .no], none⟩ = .ok .nx ⟨[.v (tTT ls), s1, s2, .no], none⟩ → B ⟨[.v (tTT ls), s1, s2, .no], none⟩ = .ok (.rt (.list [nD x])) s' → ∀ m : Nat, gLen [tTT ls] = some (nD m) → cLt (.int 0) (nD m) = some true → cLt (nD m) (.int 8) = some true → fnB 1 4 (sSeq (sIf (bOr (bNot (eTruth (toSrc (eIsi "tuple" (eN 0))))) (bNot (eChain cLt cLt (eC (.int 0)) (eCall1 gLen (sCons (eN 0) (sNil))) (eC (.int 8))))) (sRet (eL (eLst (eCons (eC .none) (eNil))))) (sNx)) (sSeq A (sSeq B (sRet (eL (eLst (eNil))))))) [tTT ls] none = .ok (.list [nD x]) none := by
              intro A B hA hB m hlen c1 c2
              simp (config := { implicitDefEqProofs := false }) only [FL.lift_a, FL.eC_a, FL.eV_a, FL.eN_a, FL.eP_p, FL.rd_d, FL.rd_i, FL.rd_p, FL.toSrc_a, FL.e1_a, FL.e2_a, FL.eCmp_a, FL.eBool_a, FL.eChain_a, FL.eChain_t, FL.pure_a, FL.eTruth_a, FL.bNot_a, FL.bAnd_a, FL.bOr_a, FL.bYes_a, FL.eIf_a, FL.vAnd_a, FL.vOr_a, FL.asBool_a, FL.eNil_a, FL.eCons_a, FL.eTup_a, FL.eLst_a, FL.eL_a, FL.eIx_a, FL.eSl_a, FL.pNo_a, FL.pSo_a, FL.asInt_a, FL.sNil_a, FL.sCons_a, FL.rdA_n, FL.rdA_c, FL.eCall1_a, FL.eCallL_a, FL.eIsi_a, FL.eM1_a, FL.sSeq_a, FL.sSeqL_a, FL.sIfL_a, FL.sNx_a, FL.sBk_a, FL.sCt_a, FL.sRet_a, FL.sRetN_a, FL.sDrop_a, FL.sIf_a, FL.aN_a, FL.aNil_a, FL.aCons_a, FL.aTup_a, FL.aPool_0, FL.aPool_1, FL.aPool_2, FL.sSet_a, FL.sSetO_a, FL.sAsg_a, FL.sApp_a, FL.sExt_a, FL.ePop_a, FL.sStore_a, FL.aSub_a, FL.ownAt_a, FL.putAt_a, FL.sPar_a, FL.mNil_a, FL.mV_a, FL.mO_a, FL.setAll_c, FL.setAll_n, FL.eDm_a, FL.eCall_a, FL.eCallP_a, FL.eCallO_a, FL.eCallOP_a, FL.arrB_a, FL.iEn_a, FL.turn_a, FL.fnB_a, FL.fnL_a, FL.rep_s, FL.rep_z, FL.few_z, FL.few_1, FL.few_2, FL.few_3, FL.gAdd_i, FL.gSub_i, FL.cLt_i, FL.cLe_i, FL.cGt_i, FL.cGe_i, FL.cEq_i, FL.cNe_i, FL.cEq_str, FL.cNe_str, FL.eqv_b, FL.cEq_b, FL.truth_b, FL.truth_i, FL.truth_l, FL.truth_t, FL.gLen_l, FL.gLen_t, FL.gInt_i, FL.gTup_l, FL.gTup_t, FL.items_l, FL.items_t, FL.cIs_b, FL.gIx_l0, FL.gIx_l1, FL.gIx_l2, FL.gIx_t0, FL.gIx_t1, FL.gIx_t2, FL.cLt_n, FL.cLe_n, FL.cLe_ni, FL.cLe_in, FL.cGt_n, FL.cGt_ni, FL.cGe_n, FL.cGe_ni, FL.cEq_n, FL.cEq_ni, FL.cEq_in, FL.cNe_n, FL.cNe_ni, FL.gAdd_n, FL.gAdd_ni, FL.gAdd_in, FL.gSub_ni, FL.gSub_nn, FL.gSub_in, FL.gInt_n, FL.cEq_tN, FL.cNe_tN, FL.cEq_lN, FL.sh_nilL, FL.sh_nilT, FL.gLen_tN, FL.gIx_tN, FL.gIx_tT, FL.items_tN, FL.items_tT, FL.ty_i, FL.ty_n, FL.ty_tN, FL.ty_tT, FL.kit_ii, FL.kit_ib, FL.kit_tt, FL.kit_lt, FL.same_tN, FL.same_l, FL.arr_n, FL.arr_c, List.getElem?_cons_zero, List.getElem?_cons_succ, List.set_cons_zero, List.set_cons_succ, List.length_cons, List.length_nil, List.map_cons, List.map_nil, List.cons_append, List.nil_append, Bool.not_true, Bool.not_false, if_true, if_false, Bool.false_eq_true, FL.R.bind, eq_self, and_self, decide_true, decide_false, Option.bind_some, Option.map_some, List.length_map, FL.wipeE, FL.backE, hlen, c1, c2, hA, hB, hJ]
            exact key _ _ hF hF2 _ hlen c1 c2
          · have := (isBk_rows hr).mp h x (List.mem_range.mp (List.mem_of_getElem? hx))
            simp [this] at hp
        · refine ⟨[], rfl, ?_, fun _ => (isBk_rows hr).mpr fun i hi => ?_, fun _ => rfl⟩
          · have key : ∀ A B : B Fl, A ⟨[.v (tTT ls), .no, .no, .no], none⟩ = .ok .nx ⟨[.v (tTT ls), s1, s2, .no], none⟩ → B ⟨[.v (tTT ls), s1, s2, .no], none⟩ = .ok .nx ⟨[.v (tTT ls), t1, t2, .no], none⟩ → ∀ m : Nat, gLen [tTT ls] = some (nD m) → cLt (.int 0) (nD m) = some true → cLt (nD m) (.int 8) = some true → fnB 1 4 (sSeq (sIf (bOr (bNot (eTruth (toSrc (eIsi "tuple" (eN 0))))) (bNot (eChain cLt cLt (eC (.int 0)) (eCall1 gLen (sCons (eN 0) (sNil))) (eC (.int 8))))) (sRet (eL (eLst (eCons (eC .none) (eNil))))) (sNx)) (sSeq A (sSeq B (sRet (eL (eLst (eNil))))))) [tTT ls] none = .ok (.list []) none := by
              intro A B hA hB m hlen c1 c2
              simp (config := { implicitDefEqProofs := false }) only [FL.lift_a, FL.eC_a, FL.eV_a, FL.eN_a, FL.eP_p, FL.rd_d, FL.rd_i, FL.rd_p, FL.toSrc_a, FL.e1_a, FL.e2_a, FL.eCmp_a, FL.eBool_a, FL.eChain_a, FL.eChain_t, FL.pure_a, FL.eTruth_a, FL.bNot_a, FL.bAnd_a, FL.bOr_a, FL.bYes_a, FL.eIf_a, FL.vAnd_a, FL.vOr_a, FL.asBool_a, FL.eNil_a, FL.eCons_a, FL.eTup_a, FL.eLst_a, FL.eL_a, FL.eIx_a, FL.eSl_a, FL.pNo_a, FL.pSo_a, FL.asInt_a, FL.sNil_a, FL.sCons_a, FL.rdA_n, FL.rdA_c, FL.eCall1_a, FL.eCallL_a, FL.eIsi_a, FL.eM1_a, FL.sSeq_a, FL.sSeqL_a, FL.sIfL_a, FL.sNx_a, FL.sBk_a, FL.sCt_a, FL.sRet_a, FL.sRetN_a, FL.sDrop_a, FL.sIf_a, FL.aN_a, FL.aNil_a, FL.aCons_a, FL.aTup_a, FL.aPool_0, FL.aPool_1, FL.aPool_2, FL.sSet_a, FL.sSetO_a, FL.sAsg_a, FL.sApp_a, FL.sExt_a, FL.ePop_a, FL.sStore_a, FL.aSub_a, FL.ownAt_a, FL.putAt_a, FL.sPar_a, FL.mNil_a, FL.mV_a, FL.mO_a, FL.setAll_c, FL.setAll_n, FL.eDm_a, FL.eCall_a, FL.eCallP_a, FL.eCallO_a, FL.eCallOP_a, FL.arrB_a, FL.iEn_a, FL.turn_a, FL.fnB_a, FL.fnL_a, FL.rep_s, FL.rep_z, FL.few_z, FL.few_1, FL.few_2, FL.few_3, FL.gAdd_i, FL.gSub_i, FL.cLt_i, FL.cLe_i, FL.cGt_i, FL.cGe_i, FL.cEq_i, FL.cNe_i, FL.cEq_str, FL.cNe_str, FL.eqv_b, FL.cEq_b, FL.truth_b, FL.truth_i, FL.truth_l, FL.truth_t, FL.gLen_l, FL.gLen_t, FL.gInt_i, FL.gTup_l, FL.gTup_t, FL.items_l, FL.items_t, FL.cIs_b, FL.gIx_l0, FL.gIx_l1, FL.gIx_l2, FL.gIx_t0, FL.gIx_t1, FL.gIx_t2, FL.cLt_n, FL.cLe_n, FL.cLe_ni, FL.cLe_in, FL.cGt_n, FL.cGt_ni, FL.cGe_n, FL.cGe_ni, FL.cEq_n, FL.cEq_ni, FL.cEq_in, FL.cNe_n, FL.cNe_ni, FL.gAdd_n, FL.gAdd_ni, FL.gAdd_in, FL.gSub_ni, FL.gSub_nn, FL.gSub_in, FL.gInt_n, FL.cEq_tN, FL.cNe_tN, FL.cEq_lN, FL.sh_nilL, FL.sh_nilT, FL.gLen_tN, FL.gIx_tN, FL.gIx_tT, FL.items_tN, FL.items_tT, FL.ty_i, FL.ty_n, FL.ty_tN, FL.ty_tT, FL.kit_ii, FL.kit_ib, FL.kit_tt, FL.kit_lt, FL.same_tN, FL.same_l, FL.arr_n, FL.arr_c, List.getElem?_cons_zero, List.getElem?_cons_succ, List.set_cons_zero, List.set_cons_succ, List.length_cons, List.length_nil, List.map_cons, List.map_nil, List.cons_append, List.nil_append, Bool.not_true, Bool.not_false, if_true, if_false, Bool.false_eq_true, FL.R.bind, eq_self, and_self, decide_true, decide_false, Option.bind_some, Option.map_some, List.length_map, FL.wipeE, FL.backE, hlen, c1, c2, hA, hB]
            exact key _ _ hF hF2 _ hlen c1 c2
          · have := hall2 i i (by rw [List.getElem?_range hi])
            simpa using this
    · refine ⟨[.none], sh_none, ?_, by simp, ?_⟩
      · have key : ∀ A B : B Fl, fnB 1 4 (sSeq (sIf (bOr (bNot (eTruth (toSrc (eIsi "tuple" (eN 0))))) (bNot (eChain cLt cLt (eC (.int 0)) (eCall1 gLen (sCons (eN 0) (sNil))) (eC (.int 8))))) (sRet (eL (eLst (eCons (eC .none) (eNil))))) (sNx)) (sSeq A (sSeq B (sRet (eL (eLst (eNil))))))) [.tuple ds] none = .ok (.list [.none]) none := by
          intro A B
          by_cases c1 : 1 ≤ ds.length
          · have e1 : cLt (.int 0) (nD ds.length) = some true := by rw [cLt_in]; exact congrArg some (decide_eq_true (by omega))
            have e2 : cLt (nD ds.length) (.int 8) = some false := by rw [cLt_ni]; exact congrArg some (decide_eq_false (by omega))
            simp (config := { implicitDefEqProofs := false }) only [FL.lift_a, FL.eC_a, FL.eV_a, FL.eN_a, FL.eP_p, FL.rd_d, FL.rd_i, FL.rd_p, FL.toSrc_a, FL.e1_a, FL.e2_a, FL.eCmp_a, FL.eBool_a, FL.eChain_a, FL.eChain_t, FL.pure_a, FL.eTruth_a, FL.bNot_a, FL.bAnd_a, FL.bOr_a, FL.bYes_a, FL.eIf_a, FL.vAnd_a, FL.vOr_a, FL.asBool_a, FL.eNil_a, FL.eCons_a, FL.eTup_a, FL.eLst_a, FL.eL_a, FL.eIx_a, FL.eSl_a, FL.pNo_a, FL.pSo_a, FL.asInt_a, FL.sNil_a, FL.sCons_a, FL.rdA_n, FL.rdA_c, FL.eCall1_a, FL.eCallL_a, FL.eIsi_a, FL.eM1_a, FL.sSeq_a, FL.sSeqL_a, FL.sIfL_a, FL.sNx_a, FL.sBk_a, FL.sCt_a, FL.sRet_a, FL.sRetN_a, FL.sDrop_a, FL.sIf_a, FL.aN_a, FL.aNil_a, FL.aCons_a, FL.aTup_a, FL.aPool_0, FL.aPool_1, FL.aPool_2, FL.sSet_a, FL.sSetO_a, FL.sAsg_a, FL.sApp_a, FL.sExt_a, FL.ePop_a, FL.sStore_a, FL.aSub_a, FL.ownAt_a, FL.putAt_a, FL.sPar_a, FL.mNil_a, FL.mV_a, FL.mO_a, FL.setAll_c, FL.setAll_n, FL.eDm_a, FL.eCall_a, FL.eCallP_a, FL.eCallO_a, FL.eCallOP_a, FL.arrB_a, FL.iEn_a, FL.turn_a, FL.fnB_a, FL.fnL_a, FL.rep_s, FL.rep_z, FL.few_z, FL.few_1, FL.few_2, FL.few_3, FL.gAdd_i, FL.gSub_i, FL.cLt_i, FL.cLe_i, FL.cGt_i, FL.cGe_i, FL.cEq_i, FL.cNe_i, FL.cEq_str, FL.cNe_str, FL.eqv_b, FL.cEq_b, FL.truth_b, FL.truth_i, FL.truth_l, FL.truth_t, FL.gLen_l, FL.gInt_i, FL.gTup_l, FL.gTup_t, FL.items_l, FL.items_t, FL.cIs_b, FL.gIx_l0, FL.gIx_l1, FL.gIx_l2, FL.gIx_t0, FL.gIx_t1, FL.gIx_t2, FL.cLt_n, FL.cLt_ni, FL.cLt_in, FL.cLe_n, FL.cLe_ni, FL.cLe_in, FL.cGt_n, FL.cGt_ni, FL.cGe_n, FL.cGe_ni, FL.cEq_n, FL.cEq_ni, FL.cEq_in, FL.cNe_n, FL.cNe_ni, FL.gAdd_n, FL.gAdd_ni, FL.gAdd_in, FL.gSub_ni, FL.gSub_nn, FL.gSub_in, FL.gInt_n, FL.cEq_tN, FL.cNe_tN, FL.cEq_lN, FL.sh_nilL, FL.sh_nilT, FL.gLen_tN, FL.gLen_tT, FL.gIx_tN, FL.gIx_tT, FL.items_tN, FL.items_tT, FL.ty_i, FL.ty_n, FL.kit_ii, FL.kit_ib, FL.kit_lt, FL.same_tN, FL.same_l, FL.arr_n, FL.arr_c, List.getElem?_cons_zero, List.getElem?_cons_succ, List.set_cons_zero, List.set_cons_succ, List.length_cons, List.length_nil, List.map_cons, List.map_nil, List.cons_append, List.nil_append, Bool.not_true, Bool.not_false, if_true, if_false, Bool.false_eq_true, FL.R.bind, eq_self, and_self, decide_true, decide_false, Option.bind_some, Option.map_some, List.length_map, FL.wipeE, FL.backE, ht', hlen, e1, e2]
          · have e1 : cLt (.int 0) (nD ds.length) = some false := by rw [cLt_in]; exact congrArg some (decide_eq_false (by omega))
            simp (config := { implicitDefEqProofs := false }) only [FL.lift_a, FL.eC_a, FL.eV_a, FL.eN_a, FL.eP_p, FL.rd_d, FL.rd_i, FL.rd_p, FL.toSrc_a, FL.e1_a, FL.e2_a, FL.eCmp_a, FL.eBool_a, FL.eChain_a, FL.eChain_t, FL.pure_a, FL.eTruth_a, FL.bNot_a, FL.bAnd_a, FL.bOr_a, FL.bYes_a, FL.eIf_a, FL.vAnd_a, FL.vOr_a, FL.asBool_a, FL.eNil_a, FL.eCons_a, FL.eTup_a, FL.eLst_a, FL.eL_a, FL.eIx_a, FL.eSl_a, FL.pNo_a, FL.pSo_a, FL.asInt_a, FL.sNil_a, FL.sCons_a, FL.rdA_n, FL.rdA_c, FL.eCall1_a, FL.eCallL_a, FL.eIsi_a, FL.eM1_a, FL.sSeq_a, FL.sSeqL_a, FL.sIfL_a, FL.sNx_a, FL.sBk_a, FL.sCt_a, FL.sRet_a, FL.sRetN_a, FL.sDrop_a, FL.sIf_a, FL.aN_a, FL.aNil_a, FL.aCons_a, FL.aTup_a, FL.aPool_0, FL.aPool_1, FL.aPool_2, FL.sSet_a, FL.sSetO_a, FL.sAsg_a, FL.sApp_a, FL.sExt_a, FL.ePop_a, FL.sStore_a, FL.aSub_a, FL.ownAt_a, FL.putAt_a, FL.sPar_a, FL.mNil_a, FL.mV_a, FL.mO_a, FL.setAll_c, FL.setAll_n, FL.eDm_a, FL.eCall_a, FL.eCallP_a, FL.eCallO_a, FL.eCallOP_a, FL.arrB_a, FL.iEn_a, FL.turn_a, FL.fnB_a, FL.fnL_a, FL.rep_s, FL.rep_z, FL.few_z, FL.few_1, FL.few_2, FL.few_3, FL.gAdd_i, FL.gSub_i, FL.cLt_i, FL.cLe_i, FL.cGt_i, FL.cGe_i, FL.cEq_i, FL.cNe_i, FL.cEq_str, FL.cNe_str, FL.eqv_b, FL.cEq_b, FL.truth_b, FL.truth_i, FL.truth_l, FL.truth_t, FL.gLen_l, FL.gInt_i, FL.gTup_l, FL.gTup_t, FL.items_l, FL.items_t, FL.cIs_b, FL.gIx_l0, FL.gIx_l1, FL.gIx_l2, FL.gIx_t0, FL.gIx_t1, FL.gIx_t2, FL.cLt_n, FL.cLt_ni, FL.cLt_in, FL.cLe_n, FL.cLe_ni, FL.cLe_in, FL.cGt_n, FL.cGt_ni, FL.cGe_n, FL.cGe_ni, FL.cEq_n, FL.cEq_ni, FL.cEq_in, FL.cNe_n, FL.cNe_ni, FL.gAdd_n, FL.gAdd_ni, FL.gAdd_in, FL.gSub_ni, FL.gSub_nn, FL.gSub_in, FL.gInt_n, FL.cEq_tN, FL.cNe_tN, FL.cEq_lN, FL.sh_nilL, FL.sh_nilT, FL.gLen_tN, FL.gLen_tT, FL.gIx_tN, FL.gIx_tT, FL.items_tN, FL.items_tT, FL.ty_i, FL.ty_n, FL.kit_ii, FL.kit_ib, FL.kit_lt, FL.same_tN, FL.same_l, FL.arr_n, FL.arr_c, List.getElem?_cons_zero, List.getElem?_cons_succ, List.set_cons_zero, List.set_cons_succ, List.length_cons, List.length_nil, List.map_cons, List.map_nil, List.cons_append, List.nil_append, Bool.not_true, Bool.not_false, if_true, if_false, Bool.false_eq_true, FL.R.bind, eq_self, and_self, decide_true, decide_false, Option.bind_some, Option.map_some, List.length_map, FL.wipeE, FL.backE, ht', hlen, e1]
        exact key _ _
      · rintro ⟨ls, e, hb⟩
        have e : ds = ls.map tN := by injection e
        subst e
        rw [List.length_map] at hz
        exact absurd ⟨hb.lo, hb.hi⟩ hz
  | _ => exact notT rfl
end M
set_option maxHeartbeats 4000000
/-! k03: drawn orders, drawn books. -/
namespace M
open PySem PySem.Spec PyProof.Rows L2 FL
theorem gIx_lN (l : List Nat) {k : Nat} (hk : k < l.length) : gIx (.list (l.map nD)) (nD k) = some (nD l[k]) := by
  rw [gIx_l, List.getElem?_map, List.getElem?_eq_getElem hk]
  rfl
theorem gSl_hiN (l : List Nat) (k : Nat) : gSl none (some (k : Nat)) (.list (l.map nD)) = some (.list ((l.take k).map nD)) := by
  show some (PyData.list (FL.cut (l.map nD) none (some (k : Nat)))) = _
  rw [cut_hiN, ← List.map_take]
theorem gSl_loN {l : List Nat} {k : Nat} (h : k ≤ l.length) : gSl (some (k : Nat)) none (.list (l.map nD)) = some (.list ((l.drop k).map nD)) := by
  show some (PyData.list (FL.cut (l.map nD) (some (k : Nat)) none)) = _
  rw [cut_loN (by rw [List.length_map]; exact h), ← List.map_drop]
theorem take_drop_perm {l : List Nat} {k : Nat} (hk : k < l.length) : (l[k] :: (l.take k ++ l.drop (k + 1))).Perm l := by
  rw [← List.eraseIdx_eq_take_drop_succ]
  exact erase_perm l k hk
theorem gAdd_n1 (k : Nat) : gAdd (nD k) (.int 1) = some (nD (k + 1)) := by rw [gAdd_ni]; rfl
abbrev mixB (F : Fn) : B Fl := sSeq (sSet 5 (eCallP F (eCons (eV 0) (eCons (eCall1 gLen (sCons (eN 2) (sNil))) (eNil))))) (sSeq (sApp 3 (eIx (eN 2) (eV 5))) (sSet 2 (e2 gAdd (eSl (eN 2) (pNo) (pSo (eV 5))) (eSl (eN 2) (pSo (e2 gAdd (eV 5) (eC (.int 1)))) (pNo)))))
theorem mix_key {F : Fn} {src x : D} {L1 L2 L3 f : List D} {m k : Nat} {s4 s5 : Sl} {q q' : List Int} (hz : f.length < sizeLine) (h1 : gLen [.list L1] = some (nD m)) (h2 : F [poolD, nD m] (some q) = .ok (nD k) (some q')) (h3 : gIx (.list L1) (nD k) = some x) (h4 : gSl none (some (k : Nat)) (.list L1) = some (.list L2)) (h5 : gSl (some ((k + 1 : Nat) : Int)) none (.list L1) = some (.list L3)) {L4 : List D} (h6 : gAdd (.list L2) (.list L3) = some (.list L4)) :
    mixB F ⟨[.v poolD, .v src, .v (.list L1), .l f, s4, s5], some q⟩ = .ok .nx ⟨[.v poolD, .v src, .v (.list L4), .l (f ++ [x]), s4, .v (nD k)], some q'⟩ := by
  simp (config := { implicitDefEqProofs := false }) only [mixB, FL.lift_a, FL.eC_a, FL.eV_a, FL.eN_a, FL.eP_p, FL.rd_d, FL.rd_i, FL.rd_p, FL.toSrc_a, FL.e1_a, FL.e2_a, FL.eCmp_a, FL.eBool_a, FL.eChain_a, FL.eChain_t, FL.pure_a, FL.eTruth_a, FL.bNot_a, FL.bAnd_a, FL.bOr_a, FL.bYes_a, FL.eIf_a, FL.vAnd_a, FL.vOr_a, FL.asBool_a, FL.eNil_a, FL.eCons_a, FL.eTup_a, FL.eLst_a, FL.eL_a, FL.eIx_a, FL.eSl_a, FL.pNo_a, FL.pSo_a, FL.sNil_a, FL.sCons_a, FL.rdA_n, FL.rdA_c, FL.eCall1_a, FL.eCallL_a, FL.eIsi_a, FL.eM1_a, FL.sSeq_a, FL.sSeqL_a, FL.sIfL_a, FL.sNx_a, FL.sBk_a, FL.sCt_a, FL.sRet_a, FL.sRetN_a, FL.sDrop_a, FL.sIf_a, FL.aN_a, FL.aNil_a, FL.aCons_a, FL.aTup_a, FL.aPool_0, FL.aPool_1, FL.aPool_2, FL.sSet_a, FL.sSetO_a, FL.sAsg_a, FL.sApp_a, FL.sExt_a, FL.ePop_a, FL.sStore_a, FL.aSub_a, FL.ownAt_a, FL.putAt_a, FL.sPar_a, FL.mNil_a, FL.mV_a, FL.mO_a, FL.setAll_c, FL.setAll_n, FL.eDm_a, FL.eCall_a, FL.eCallP_a, FL.eCallO_a, FL.eCallOP_a, FL.arrB_a, FL.iEn_a, FL.turn_a, FL.fnB_a, FL.fnL_a, FL.rep_s, FL.rep_z, FL.few_z, FL.few_1, FL.few_2, FL.few_3, FL.gAdd_i, FL.gSub_i, FL.cLt_i, FL.cLe_i, FL.cGt_i, FL.cGe_i, FL.cEq_i, FL.cNe_i, FL.cEq_str, FL.cNe_str, FL.eqv_b, FL.cEq_b, FL.truth_b, FL.truth_i, FL.truth_l, FL.truth_t, FL.gLen_t, FL.gInt_i, FL.gTup_l, FL.gTup_t, FL.items_l, FL.items_t, FL.cIs_b, FL.gIx_t0, FL.gIx_t1, FL.gIx_t2, FL.cLt_n, FL.cLt_ni, FL.cLt_in, FL.cLe_n, FL.cLe_ni, FL.cLe_in, FL.cGt_n, FL.cGt_ni, FL.cGe_n, FL.cGe_ni, FL.cEq_n, FL.cEq_ni, FL.cEq_in, FL.cNe_n, FL.cNe_ni, FL.gAdd_n, FL.gAdd_in, FL.gSub_ni, FL.gSub_nn, FL.gSub_in, FL.gInt_n, FL.cEq_tN, FL.cNe_tN, FL.cEq_lN, FL.sh_nilL, FL.sh_nilT, FL.gLen_tN, FL.gLen_tT, FL.gIx_tN, FL.gIx_tT, FL.items_tN, FL.items_tT, FL.ty_i, FL.ty_n, FL.ty_tN, FL.ty_tT, FL.kit_ii, FL.kit_ib, FL.kit_tt, FL.kit_lt, FL.same_tN, FL.same_l, FL.arr_n, FL.arr_c, List.getElem?_cons_zero, List.getElem?_cons_succ, List.set_cons_zero, List.set_cons_succ, List.length_cons, List.length_nil, List.map_cons, List.map_nil, List.cons_append, List.nil_append, Bool.not_true, Bool.not_false, if_true, if_false, Bool.false_eq_true, FL.R.bind, eq_self, and_self, decide_true, decide_false, Option.bind_some, Option.map_some, List.length_map, FL.wipeE, FL.backE, asInt_n, gAdd_n1, h1, h2, h3, h4, h5, h6, hz, ownAt_a, putAt_a]
theorem mixed_ok {src : D} {l : List Nat} {q : List Int} (hs : gLstOf [src] = some (l.map nD)) (hl : l.length ≤ 1000) (hq : PoolOk q) : ∃ (p : List Nat) (q' : List Int), p.Perm l ∧ PoolOk q' ∧ f__law_mixed [poolD, src] (some q) = .ok (.list (p.map nD)) (some q') := by
  have hlen : gLen [.list (l.map nD)] = some (nD l.length) := by simp [gLen, nD]
  obtain ⟨s', h1, h2⟩ := sFor_inv (fi := iR1 (eCall1 gLen (sCons (eN 2) (sNil)))) (a := aN 4) (g := mixB f__law_draw) (s := ⟨[.v poolD, .v src, .v (.list (l.map nD)), .l [], .no, .no], some q⟩) (ds := (List.range l.length).map nD)
    (fun i s => ∃ f l' s4 s5 q, s = ⟨[.v poolD, .v src, .v (.list (l'.map nD)), .l (f.map nD), s4, s5], some q⟩ ∧ PoolOk q ∧ (f ++ l').Perm l ∧ f.length = i) (s1 := ⟨[.v poolD, .v src, .v (.list (l.map nD)), .l [], .no, .no], some q⟩)
    (iR1_n (by simp (config := { implicitDefEqProofs := false }) only [FL.lift_a, FL.eC_a, FL.eV_a, FL.eN_a, FL.eP_p, FL.rd_d, FL.rd_i, FL.rd_p, FL.toSrc_a, FL.e1_a, FL.e2_a, FL.eCmp_a, FL.eBool_a, FL.eChain_a, FL.eChain_t, FL.pure_a, FL.eTruth_a, FL.bNot_a, FL.bAnd_a, FL.bOr_a, FL.bYes_a, FL.eIf_a, FL.vAnd_a, FL.vOr_a, FL.asBool_a, FL.eNil_a, FL.eCons_a, FL.eTup_a, FL.eLst_a, FL.eL_a, FL.eIx_a, FL.eSl_a, FL.pNo_a, FL.pSo_a, FL.asInt_a, FL.sNil_a, FL.sCons_a, FL.rdA_n, FL.rdA_c, FL.eCall1_a, FL.eCallL_a, FL.eIsi_a, FL.eM1_a, FL.sSeq_a, FL.sSeqL_a, FL.sIfL_a, FL.sNx_a, FL.sBk_a, FL.sCt_a, FL.sRet_a, FL.sRetN_a, FL.sDrop_a, FL.sIf_a, FL.aN_a, FL.aNil_a, FL.aCons_a, FL.aTup_a, FL.aPool_0, FL.aPool_1, FL.aPool_2, FL.sSet_a, FL.sSetO_a, FL.sAsg_a, FL.sApp_a, FL.sExt_a, FL.ePop_a, FL.sStore_a, FL.aSub_a, FL.ownAt_a, FL.putAt_a, FL.sPar_a, FL.mNil_a, FL.mV_a, FL.mO_a, FL.setAll_c, FL.setAll_n, FL.eDm_a, FL.eCall_a, FL.eCallP_a, FL.eCallO_a, FL.eCallOP_a, FL.arrB_a, FL.iEn_a, FL.turn_a, FL.fnB_a, FL.fnL_a, FL.rep_s, FL.rep_z, FL.few_z, FL.few_1, FL.few_2, FL.few_3, FL.gAdd_i, FL.gSub_i, FL.cLt_i, FL.cLe_i, FL.cGt_i, FL.cGe_i, FL.cEq_i, FL.cNe_i, FL.cEq_str, FL.cNe_str, FL.eqv_b, FL.cEq_b, FL.truth_b, FL.truth_i, FL.truth_l, FL.truth_t, FL.gLen_t, FL.gInt_i, FL.gTup_l, FL.gTup_t, FL.items_l, FL.items_t, FL.cIs_b, FL.gIx_l0, FL.gIx_l1, FL.gIx_l2, FL.gIx_t0, FL.gIx_t1, FL.gIx_t2, FL.cLt_n, FL.cLt_ni, FL.cLt_in, FL.cLe_n, FL.cLe_ni, FL.cLe_in, FL.cGt_n, FL.cGt_ni, FL.cGe_n, FL.cGe_ni, FL.cEq_n, FL.cEq_ni, FL.cEq_in, FL.cNe_n, FL.cNe_ni, FL.gAdd_n, FL.gAdd_ni, FL.gAdd_in, FL.gSub_ni, FL.gSub_nn, FL.gSub_in, FL.gInt_n, FL.cEq_tN, FL.cNe_tN, FL.cEq_lN, FL.sh_nilL, FL.sh_nilT, FL.gLen_tN, FL.gLen_tT, FL.gIx_tN, FL.gIx_tT, FL.items_tN, FL.items_tT, FL.ty_i, FL.ty_n, FL.ty_tN, FL.ty_tT, FL.kit_ii, FL.kit_ib, FL.kit_tt, FL.kit_lt, FL.same_tN, FL.same_l, FL.arr_n, FL.arr_c, List.getElem?_cons_zero, List.getElem?_cons_succ, List.set_cons_zero, List.set_cons_succ, List.length_cons, List.length_nil, List.map_cons, List.map_nil, List.cons_append, List.nil_append, Bool.not_true, Bool.not_false, if_true, if_false, Bool.false_eq_true, FL.R.bind, eq_self, and_self, decide_true, decide_false, Option.bind_some, Option.map_some, List.length_map, FL.wipeE, FL.backE, hlen]; rfl) (by omega)) ⟨[], l, _, _, q, rfl, hq, List.Perm.refl _, rfl⟩ (fun i d s hd hi => by
      obtain ⟨f, l', s4, s5, q, rfl, hq, hp, hf⟩ := hi
      have hi : i < l.length := by have := (List.getElem?_eq_some_iff.mp hd).1; simpa using this
      have hlen : f.length + l'.length = l.length := by have := hp.length_eq; simpa using this
      obtain ⟨k, q', hk, hq', hdr⟩ := draw_nat (m := l'.length) hq (by omega) (by omega)
      have g1 : gLen [.list (l'.map nD)] = some (nD l'.length) := by simp [gLen, nD]
      have g6 : gAdd (.list ((l'.take k).map nD)) (.list ((l'.drop (k + 1)).map nD)) = some (.list ((l'.take k ++ l'.drop (k + 1)).map nD)) := by
        rw [add_ll (by rw [List.length_map, List.length_map, List.length_take, List.length_drop]; omega), ← List.map_append]
      refine ⟨_, _, rfl, .inl (mix_key (by rw [List.length_map, sizeLine_eq]; omega) g1 hdr (gIx_lN l' hk) (gSl_hiN l' k) (gSl_loN (by omega)) g6), f ++ [l'[k]], l'.take k ++ l'.drop (k + 1), _, _, q', by rw [show (f ++ [l'[k]]).map nD = f.map nD ++ [nD l'[k]] by simp], hq', ?_, by simp [hf]⟩
      rw [List.append_assoc]
      exact (List.Perm.append_left f (take_drop_perm hk)).trans hp)
  obtain ⟨f, l', s4, s5, q', rfl, hq', hp, hf⟩ := h2
  have hl' : l' = [] := by
    have := hp.length_eq
    simp at this hf
    exact List.eq_nil_of_length_eq_zero (by omega)
  subst hl'
  rw [List.append_nil] at hp
  refine ⟨f, q', hp, hq', ?_⟩
  have key : ∀ L : B Fl, L ⟨[.v poolD, .v src, .v (.list (l.map nD)), .l [], .no, .no], some q⟩ = .ok .nx ⟨[.v poolD, .v src, .v (.list ([].map nD)), .l (f.map nD), s4, s5], some q'⟩ → fnB 2 6 (sSeq (sPar [2, 3] (mV (eL (eCallL gLstOf (sCons (eN 1) (sNil)))) (mO (eLst (eNil)) (mNil)))) (sSeq L (sRet (eV 3)))) [poolD, src] (some q) = .ok (.list (f.map nD)) (some q') := by
    intro L hL
    rw [List.map_nil] at hL
    simp (config := { implicitDefEqProofs := false }) only [FL.lift_a, FL.eC_a, FL.eV_a, FL.eN_a, FL.eP_p, FL.rd_d, FL.rd_i, FL.rd_p, FL.toSrc_a, FL.e1_a, FL.e2_a, FL.eCmp_a, FL.eBool_a, FL.eChain_a, FL.eChain_t, FL.pure_a, FL.eTruth_a, FL.bNot_a, FL.bAnd_a, FL.bOr_a, FL.bYes_a, FL.eIf_a, FL.vAnd_a, FL.vOr_a, FL.asBool_a, FL.eNil_a, FL.eCons_a, FL.eTup_a, FL.eLst_a, FL.eL_a, FL.eIx_a, FL.eSl_a, FL.pNo_a, FL.pSo_a, FL.asInt_a, FL.sNil_a, FL.sCons_a, FL.rdA_n, FL.rdA_c, FL.eCall1_a, FL.eCallL_a, FL.eIsi_a, FL.eM1_a, FL.sSeq_a, FL.sSeqL_a, FL.sIfL_a, FL.sNx_a, FL.sBk_a, FL.sCt_a, FL.sRet_a, FL.sRetN_a, FL.sDrop_a, FL.sIf_a, FL.aN_a, FL.aNil_a, FL.aCons_a, FL.aTup_a, FL.aPool_0, FL.aPool_1, FL.aPool_2, FL.sSet_a, FL.sSetO_a, FL.sAsg_a, FL.sApp_a, FL.sExt_a, FL.ePop_a, FL.sStore_a, FL.aSub_a, FL.ownAt_a, FL.putAt_a, FL.sPar_a, FL.mNil_a, FL.mV_a, FL.mO_a, FL.setAll_c, FL.setAll_n, FL.eDm_a, FL.eCall_a, FL.eCallP_a, FL.eCallO_a, FL.eCallOP_a, FL.arrB_a, FL.iEn_a, FL.turn_a, FL.fnB_a, FL.fnL_a, FL.rep_s, FL.rep_z, FL.few_z, FL.few_1, FL.few_2, FL.few_3, FL.gAdd_i, FL.gSub_i, FL.cLt_i, FL.cLe_i, FL.cGt_i, FL.cGe_i, FL.cEq_i, FL.cNe_i, FL.cEq_str, FL.cNe_str, FL.eqv_b, FL.cEq_b, FL.truth_b, FL.truth_i, FL.truth_l, FL.truth_t, FL.gLen_l, FL.gLen_t, FL.gInt_i, FL.gTup_l, FL.gTup_t, FL.items_l, FL.items_t, FL.cIs_b, FL.gIx_l0, FL.gIx_l1, FL.gIx_l2, FL.gIx_t0, FL.gIx_t1, FL.gIx_t2, FL.cLt_n, FL.cLt_ni, FL.cLt_in, FL.cLe_n, FL.cLe_ni, FL.cLe_in, FL.cGt_n, FL.cGt_ni, FL.cGe_n, FL.cGe_ni, FL.cEq_n, FL.cEq_ni, FL.cEq_in, FL.cNe_n, FL.cNe_ni, FL.gAdd_n, FL.gAdd_ni, FL.gAdd_in, FL.gSub_ni, FL.gSub_nn, FL.gSub_in, FL.gInt_n, FL.cEq_tN, FL.cNe_tN, FL.cEq_lN, FL.sh_nilL, FL.sh_nilT, FL.gLen_tN, FL.gLen_tT, FL.gIx_tN, FL.gIx_tT, FL.items_tN, FL.items_tT, FL.ty_i, FL.ty_n, FL.ty_tN, FL.ty_tT, FL.kit_ii, FL.kit_ib, FL.kit_tt, FL.kit_lt, FL.same_tN, FL.same_l, FL.arr_n, FL.arr_c, List.getElem?_cons_zero, List.getElem?_cons_succ, List.set_cons_zero, List.set_cons_succ, List.length_cons, List.length_nil, List.map_cons, List.map_nil, List.cons_append, List.nil_append, Bool.not_true, Bool.not_false, if_true, if_false, Bool.false_eq_true, FL.R.bind, eq_self, and_self, decide_true, decide_false, Option.bind_some, Option.map_some, List.length_map, FL.wipeE, FL.backE, hs, hL]
  exact key _ h1
/-! ### pairs -/
def PairsOk (n : Nat) (ps : List (List Nat)) : Prop := ∀ x ∈ ps, ∃ a b, x = [a, b] ∧ a < b ∧ b < n
abbrev SB (n w kp : Nat) (rows ps : List (List Nat)) (s6 s7 s8 s9 : Sl) (q : List Int) : S := ⟨[.v poolD, .v (nD n), .v (nD w), .v (nD kp), .l (rows.map tN), .l (ps.map tN), s6, s7, s8, s9, .no], some q⟩
abbrev cnd (F : Fn) : B Bool := bOr (eCmp (cIn false) (eN 2) (toSrc (eTup (eCons (eC (.int 0)) (eCons (eC (.int 3)) (eNil)))))) (bOr (bAnd (eCmp cEq (eN 2) (toSrc (eC (.int 1)))) (eCmp cLt (toSrc (eCallP F (eCons (eV 0) (eCons (eC (.int 4)) (eNil))))) (eN 3))) (bOr (bAnd (eCmp cEq (eN 2) (toSrc (eC (.int 2)))) (bAnd (eCmp cEq (toSrc (e2 gMod (eCall1 gInt (sCons (toSrc (e2 gAdd (eV 6) (eV 7))) (sNil))) (eC (.int 2)))) (toSrc (eC (.int 1)))) (eCmp cLt (toSrc (eCallP F (eCons (eV 0) (eCons (eC (.int 5)) (eNil))))) (toSrc (eC (.int 4)))))) (bAnd (eCmp cEq (eN 2) (toSrc (eC (.int 4)))) (eCmp cGt (toSrc (eCallP F (eCons (eV 0) (eCons (eC (.int 3)) (eNil))))) (toSrc (eC (.int 0)))))))
theorem cnd_ok {n w kp i j : Nat} {rows ps : List (List Nat)} {q : List Int} (hw : w < 5) (hq : PoolOk q) : ∃ b q', PoolOk q' ∧ cnd f__law_draw (SB n w kp rows ps (.v (nD i)) (.v (nD j)) .no .no q) = .ok b (SB n w kp rows ps (.v (nD i)) (.v (nD j)) .no .no q') ∧ (w = 3 → b = true) := by
  match w, hw with
  | 0, _ =>
    have c : cIn false (nD 0) (.tuple [.int 0, .int 3]) = some true := rfl
    have key : ∀ F : Fn, cnd F (SB n 0 kp rows ps (.v (nD i)) (.v (nD j)) .no .no q) = .ok true (SB n 0 kp rows ps (.v (nD i)) (.v (nD j)) .no .no q) := by
      intro F
      simp (config := { implicitDefEqProofs := false }) only [cnd, SB, FL.lift_a, FL.eC_a, FL.eV_a, FL.eN_a, FL.eP_p, FL.rd_d, FL.rd_i, FL.rd_p, FL.toSrc_a, FL.e1_a, FL.e2_a, FL.eCmp_a, FL.eBool_a, FL.eChain_a, FL.eChain_t, FL.pure_a, FL.eTruth_a, FL.bNot_a, FL.bAnd_a, FL.bOr_a, FL.bYes_a, FL.eIf_a, FL.vAnd_a, FL.vOr_a, FL.asBool_a, FL.eNil_a, FL.eCons_a, FL.eTup_a, FL.eLst_a, FL.eL_a, FL.eIx_a, FL.eSl_a, FL.pNo_a, FL.pSo_a, FL.asInt_a, FL.sNil_a, FL.sCons_a, FL.rdA_n, FL.rdA_c, FL.eCall1_a, FL.eCallL_a, FL.eIsi_a, FL.eM1_a, FL.sSeq_a, FL.sSeqL_a, FL.sIfL_a, FL.sNx_a, FL.sBk_a, FL.sCt_a, FL.sRet_a, FL.sRetN_a, FL.sDrop_a, FL.sIf_a, FL.aN_a, FL.aNil_a, FL.aCons_a, FL.aTup_a, FL.aPool_0, FL.aPool_1, FL.aPool_2, FL.sSet_a, FL.sSetO_a, FL.sAsg_a, FL.sApp_a, FL.sExt_a, FL.ePop_a, FL.sStore_a, FL.aSub_a, FL.ownAt_a, FL.putAt_a, FL.sPar_a, FL.mNil_a, FL.mV_a, FL.mO_a, FL.setAll_c, FL.setAll_n, FL.eDm_a, FL.eCall_a, FL.eCallP_a, FL.eCallO_a, FL.eCallOP_a, FL.arrB_a, FL.iEn_a, FL.turn_a, FL.fnB_a, FL.fnL_a, FL.rep_s, FL.rep_z, FL.few_z, FL.few_1, FL.few_2, FL.few_3, FL.gAdd_i, FL.gSub_i, FL.cLt_i, FL.cLe_i, FL.cGt_i, FL.cGe_i, FL.cEq_i, FL.cNe_i, FL.cEq_str, FL.cNe_str, FL.eqv_b, FL.cEq_b, FL.truth_b, FL.truth_i, FL.truth_l, FL.truth_t, FL.gLen_l, FL.gLen_t, FL.gInt_i, FL.gTup_l, FL.gTup_t, FL.items_l, FL.items_t, FL.cIs_b, FL.gIx_l0, FL.gIx_l1, FL.gIx_l2, FL.gIx_t0, FL.gIx_t1, FL.gIx_t2, FL.cLt_n, FL.cLt_ni, FL.cLt_in, FL.cLe_n, FL.cLe_ni, FL.cLe_in, FL.cGt_n, FL.cGt_ni, FL.cGe_n, FL.cGe_ni, FL.cEq_n, FL.cEq_ni, FL.cEq_in, FL.cNe_n, FL.cNe_ni, FL.gAdd_n, FL.gAdd_ni, FL.gAdd_in, FL.gSub_ni, FL.gSub_nn, FL.gSub_in, FL.gInt_n, FL.cEq_tN, FL.cNe_tN, FL.cEq_lN, FL.sh_nilL, FL.sh_nilT, FL.gLen_tN, FL.gLen_tT, FL.gIx_tN, FL.gIx_tT, FL.items_tN, FL.items_tT, FL.ty_i, FL.ty_n, FL.ty_tN, FL.ty_tT, FL.kit_ii, FL.kit_ib, FL.kit_tt, FL.kit_lt, FL.same_tN, FL.same_l, FL.arr_n, FL.arr_c, List.getElem?_cons_zero, List.getElem?_cons_succ, List.set_cons_zero, List.set_cons_succ, List.length_cons, List.length_nil, List.map_cons, List.map_nil, List.cons_append, List.nil_append, Bool.not_true, Bool.not_false, if_true, if_false, Bool.false_eq_true, FL.R.bind, eq_self, and_self, decide_true, decide_false, Option.bind_some, Option.map_some, List.length_map, FL.wipeE, FL.backE, c]
    exact ⟨true, q, hq, key _, fun _ => rfl⟩
  | 3, _ =>
    have c : cIn false (nD 3) (.tuple [.int 0, .int 3]) = some true := rfl
    have key : ∀ F : Fn, cnd F (SB n 3 kp rows ps (.v (nD i)) (.v (nD j)) .no .no q) = .ok true (SB n 3 kp rows ps (.v (nD i)) (.v (nD j)) .no .no q) := by
      intro F
      simp (config := { implicitDefEqProofs := false }) only [cnd, SB, FL.lift_a, FL.eC_a, FL.eV_a, FL.eN_a, FL.eP_p, FL.rd_d, FL.rd_i, FL.rd_p, FL.toSrc_a, FL.e1_a, FL.e2_a, FL.eCmp_a, FL.eBool_a, FL.eChain_a, FL.eChain_t, FL.pure_a, FL.eTruth_a, FL.bNot_a, FL.bAnd_a, FL.bOr_a, FL.bYes_a, FL.eIf_a, FL.vAnd_a, FL.vOr_a, FL.asBool_a, FL.eNil_a, FL.eCons_a, FL.eTup_a, FL.eLst_a, FL.eL_a, FL.eIx_a, FL.eSl_a, FL.pNo_a, FL.pSo_a, FL.asInt_a, FL.sNil_a, FL.sCons_a, FL.rdA_n, FL.rdA_c, FL.eCall1_a, FL.eCallL_a, FL.eIsi_a, FL.eM1_a, FL.sSeq_a, FL.sSeqL_a, FL.sIfL_a, FL.sNx_a, FL.sBk_a, FL.sCt_a, FL.sRet_a, FL.sRetN_a, FL.sDrop_a, FL.sIf_a, FL.aN_a, FL.aNil_a, FL.aCons_a, FL.aTup_a, FL.aPool_0, FL.aPool_1, FL.aPool_2, FL.sSet_a, FL.sSetO_a, FL.sAsg_a, FL.sApp_a, FL.sExt_a, FL.ePop_a, FL.sStore_a, FL.aSub_a, FL.ownAt_a, FL.putAt_a, FL.sPar_a, FL.mNil_a, FL.mV_a, FL.mO_a, FL.setAll_c, FL.setAll_n, FL.eDm_a, FL.eCall_a, FL.eCallP_a, FL.eCallO_a, FL.eCallOP_a, FL.arrB_a, FL.iEn_a, FL.turn_a, FL.fnB_a, FL.fnL_a, FL.rep_s, FL.rep_z, FL.few_z, FL.few_1, FL.few_2, FL.few_3, FL.gAdd_i, FL.gSub_i, FL.cLt_i, FL.cLe_i, FL.cGt_i, FL.cGe_i, FL.cEq_i, FL.cNe_i, FL.cEq_str, FL.cNe_str, FL.eqv_b, FL.cEq_b, FL.truth_b, FL.truth_i, FL.truth_l, FL.truth_t, FL.gLen_l, FL.gLen_t, FL.gInt_i, FL.gTup_l, FL.gTup_t, FL.items_l, FL.items_t, FL.cIs_b, FL.gIx_l0, FL.gIx_l1, FL.gIx_l2, FL.gIx_t0, FL.gIx_t1, FL.gIx_t2, FL.cLt_n, FL.cLt_ni, FL.cLt_in, FL.cLe_n, FL.cLe_ni, FL.cLe_in, FL.cGt_n, FL.cGt_ni, FL.cGe_n, FL.cGe_ni, FL.cEq_n, FL.cEq_ni, FL.cEq_in, FL.cNe_n, FL.cNe_ni, FL.gAdd_n, FL.gAdd_ni, FL.gAdd_in, FL.gSub_ni, FL.gSub_nn, FL.gSub_in, FL.gInt_n, FL.cEq_tN, FL.cNe_tN, FL.cEq_lN, FL.sh_nilL, FL.sh_nilT, FL.gLen_tN, FL.gLen_tT, FL.gIx_tN, FL.gIx_tT, FL.items_tN, FL.items_tT, FL.ty_i, FL.ty_n, FL.ty_tN, FL.ty_tT, FL.kit_ii, FL.kit_ib, FL.kit_tt, FL.kit_lt, FL.same_tN, FL.same_l, FL.arr_n, FL.arr_c, List.getElem?_cons_zero, List.getElem?_cons_succ, List.set_cons_zero, List.set_cons_succ, List.length_cons, List.length_nil, List.map_cons, List.map_nil, List.cons_append, List.nil_append, Bool.not_true, Bool.not_false, if_true, if_false, Bool.false_eq_true, FL.R.bind, eq_self, and_self, decide_true, decide_false, Option.bind_some, Option.map_some, List.length_map, FL.wipeE, FL.backE, c]
    exact ⟨true, q, hq, key _, fun _ => rfl⟩
  | 1, _ =>
    obtain ⟨t, q', _, hq', hd⟩ := draw_nat (m := 4) hq (by omega) (by omega)
    have hd' : f__law_draw [poolD, .int 4] (some q) = .ok (nD t) (some q') := hd
    have c : cIn false (nD 1) (.tuple [.int 0, .int 3]) = some false := rfl
    have c1 : cEq (nD 1) (.int 1) = some true := rfl
    have c2 : cEq (nD 1) (.int 2) = some false := rfl
    have c3 : cEq (nD 1) (.int 4) = some false := rfl
    have c4 : cLt (nD t) (nD kp) = some (decide (t < kp)) := cLt_n
    have key : ∀ F : Fn, F [poolD, .int 4] (some q) = .ok (nD t) (some q') → cnd F (SB n 1 kp rows ps (.v (nD i)) (.v (nD j)) .no .no q) = .ok (decide (t < kp)) (SB n 1 kp rows ps (.v (nD i)) (.v (nD j)) .no .no q') := by
      intro F hF
      cases e : decide (t < kp) <;> rw [e] at c4 <;> simp (config := { implicitDefEqProofs := false }) only [cnd, SB, FL.lift_a, FL.eC_a, FL.eV_a, FL.eN_a, FL.eP_p, FL.rd_d, FL.rd_i, FL.rd_p, FL.toSrc_a, FL.e1_a, FL.e2_a, FL.eCmp_a, FL.eBool_a, FL.eChain_a, FL.eChain_t, FL.pure_a, FL.eTruth_a, FL.bNot_a, FL.bAnd_a, FL.bOr_a, FL.bYes_a, FL.eIf_a, FL.vAnd_a, FL.vOr_a, FL.asBool_a, FL.eNil_a, FL.eCons_a, FL.eTup_a, FL.eLst_a, FL.eL_a, FL.eIx_a, FL.eSl_a, FL.pNo_a, FL.pSo_a, FL.asInt_a, FL.sNil_a, FL.sCons_a, FL.rdA_n, FL.rdA_c, FL.eCall1_a, FL.eCallL_a, FL.eIsi_a, FL.eM1_a, FL.sSeq_a, FL.sSeqL_a, FL.sIfL_a, FL.sNx_a, FL.sBk_a, FL.sCt_a, FL.sRet_a, FL.sRetN_a, FL.sDrop_a, FL.sIf_a, FL.aN_a, FL.aNil_a, FL.aCons_a, FL.aTup_a, FL.aPool_0, FL.aPool_1, FL.aPool_2, FL.sSet_a, FL.sSetO_a, FL.sAsg_a, FL.sApp_a, FL.sExt_a, FL.ePop_a, FL.sStore_a, FL.aSub_a, FL.ownAt_a, FL.putAt_a, FL.sPar_a, FL.mNil_a, FL.mV_a, FL.mO_a, FL.setAll_c, FL.setAll_n, FL.eDm_a, FL.eCall_a, FL.eCallP_a, FL.eCallO_a, FL.eCallOP_a, FL.arrB_a, FL.iEn_a, FL.turn_a, FL.fnB_a, FL.fnL_a, FL.rep_s, FL.rep_z, FL.few_z, FL.few_1, FL.few_2, FL.few_3, FL.gAdd_i, FL.gSub_i, FL.cLt_i, FL.cLe_i, FL.cGt_i, FL.cGe_i, FL.cEq_i, FL.cNe_i, FL.cEq_str, FL.cNe_str, FL.eqv_b, FL.cEq_b, FL.truth_b, FL.truth_i, FL.truth_l, FL.truth_t, FL.gLen_l, FL.gLen_t, FL.gInt_i, FL.gTup_l, FL.gTup_t, FL.items_l, FL.items_t, FL.cIs_b, FL.gIx_l0, FL.gIx_l1, FL.gIx_l2, FL.gIx_t0, FL.gIx_t1, FL.gIx_t2, FL.cLt_ni, FL.cLt_in, FL.cLe_n, FL.cLe_ni, FL.cLe_in, FL.cGt_n, FL.cGt_ni, FL.cGe_n, FL.cGe_ni, FL.cEq_n, FL.cEq_in, FL.cNe_n, FL.cNe_ni, FL.gAdd_n, FL.gAdd_ni, FL.gAdd_in, FL.gSub_ni, FL.gSub_nn, FL.gSub_in, FL.gInt_n, FL.cEq_tN, FL.cNe_tN, FL.cEq_lN, FL.sh_nilL, FL.sh_nilT, FL.gLen_tN, FL.gLen_tT, FL.gIx_tN, FL.gIx_tT, FL.items_tN, FL.items_tT, FL.ty_i, FL.ty_n, FL.ty_tN, FL.ty_tT, FL.kit_ii, FL.kit_ib, FL.kit_tt, FL.kit_lt, FL.same_tN, FL.same_l, FL.arr_n, FL.arr_c, List.getElem?_cons_zero, List.getElem?_cons_succ, List.set_cons_zero, List.set_cons_succ, List.length_cons, List.length_nil, List.map_cons, List.map_nil, List.cons_append, List.nil_append, Bool.not_true, Bool.not_false, if_true, if_false, Bool.false_eq_true, FL.R.bind, eq_self, and_self, decide_true, decide_false, Option.bind_some, Option.map_some, List.length_map, FL.wipeE, FL.backE, c, c1, c2, c3, c4, hF]
    exact ⟨_, q', hq', key _ hd', fun h => by cases h⟩
  | 2, _ =>
    obtain ⟨t, q', _, hq', hd⟩ := draw_nat (m := 5) hq (by omega) (by omega)
    have hd' : f__law_draw [poolD, .int 5] (some q) = .ok (nD t) (some q') := hd
    have c : cIn false (nD 2) (.tuple [.int 0, .int 3]) = some false := rfl
    have c1 : cEq (nD 2) (.int 1) = some false := rfl
    have c2 : cEq (nD 2) (.int 2) = some true := rfl
    have c3 : cEq (nD 2) (.int 4) = some false := rfl
    have c4 : cLt (nD t) (.int 4) = some (decide ((t : Int) < 4)) := cLt_ni
    have g : gMod (nD (i + j)) (.int 2) = some (.int (((i + j : Nat) : Int).fmod 2)) := gMod_i (by decide)
    have c5 : cEq (.int (((i + j : Nat) : Int).fmod 2)) (.int 1) = some (decide (((i + j : Nat) : Int).fmod 2 = 1)) := cEq_i
    have key : ∀ F : Fn, F [poolD, .int 5] (some q) = .ok (nD t) (some q') → ∃ b q', PoolOk q' ∧ cnd F (SB n 2 kp rows ps (.v (nD i)) (.v (nD j)) .no .no q) = .ok b (SB n 2 kp rows ps (.v (nD i)) (.v (nD j)) .no .no q') := by
      intro F hF
      cases e : decide (((i + j : Nat) : Int).fmod 2 = 1) <;> rw [e] at c5
      · refine ⟨false, q, hq, ?_⟩
        simp (config := { implicitDefEqProofs := false }) only [cnd, SB, FL.lift_a, FL.eC_a, FL.eV_a, FL.eN_a, FL.eP_p, FL.rd_d, FL.rd_i, FL.rd_p, FL.toSrc_a, FL.e1_a, FL.e2_a, FL.eCmp_a, FL.eBool_a, FL.eChain_a, FL.eChain_t, FL.pure_a, FL.eTruth_a, FL.bNot_a, FL.bAnd_a, FL.bOr_a, FL.bYes_a, FL.eIf_a, FL.vAnd_a, FL.vOr_a, FL.asBool_a, FL.eNil_a, FL.eCons_a, FL.eTup_a, FL.eLst_a, FL.eL_a, FL.eIx_a, FL.eSl_a, FL.pNo_a, FL.pSo_a, FL.asInt_a, FL.sNil_a, FL.sCons_a, FL.rdA_n, FL.rdA_c, FL.eCall1_a, FL.eCallL_a, FL.eIsi_a, FL.eM1_a, FL.sSeq_a, FL.sSeqL_a, FL.sIfL_a, FL.sNx_a, FL.sBk_a, FL.sCt_a, FL.sRet_a, FL.sRetN_a, FL.sDrop_a, FL.sIf_a, FL.aN_a, FL.aNil_a, FL.aCons_a, FL.aTup_a, FL.aPool_0, FL.aPool_1, FL.aPool_2, FL.sSet_a, FL.sSetO_a, FL.sAsg_a, FL.sApp_a, FL.sExt_a, FL.ePop_a, FL.sStore_a, FL.aSub_a, FL.ownAt_a, FL.putAt_a, FL.sPar_a, FL.mNil_a, FL.mV_a, FL.mO_a, FL.setAll_c, FL.setAll_n, FL.eDm_a, FL.eCall_a, FL.eCallP_a, FL.eCallO_a, FL.eCallOP_a, FL.arrB_a, FL.iEn_a, FL.turn_a, FL.fnB_a, FL.fnL_a, FL.rep_s, FL.rep_z, FL.few_z, FL.few_1, FL.few_2, FL.few_3, FL.gAdd_i, FL.gSub_i, FL.cLt_i, FL.cLe_i, FL.cGt_i, FL.cGe_i, FL.cNe_i, FL.cEq_str, FL.cNe_str, FL.eqv_b, FL.cEq_b, FL.truth_b, FL.truth_i, FL.truth_l, FL.truth_t, FL.gLen_l, FL.gLen_t, FL.gInt_i, FL.gTup_l, FL.gTup_t, FL.items_l, FL.items_t, FL.cIs_b, FL.gIx_l0, FL.gIx_l1, FL.gIx_l2, FL.gIx_t0, FL.gIx_t1, FL.gIx_t2, FL.cLt_in, FL.cLe_n, FL.cLe_ni, FL.cLe_in, FL.cGt_n, FL.cGt_ni, FL.cGe_n, FL.cGe_ni, FL.cEq_n, FL.cEq_in, FL.cNe_n, FL.cNe_ni, FL.gAdd_n, FL.gAdd_ni, FL.gAdd_in, FL.gSub_ni, FL.gSub_nn, FL.gSub_in, FL.gInt_n, FL.cEq_tN, FL.cNe_tN, FL.cEq_lN, FL.sh_nilL, FL.sh_nilT, FL.gLen_tN, FL.gLen_tT, FL.gIx_tN, FL.gIx_tT, FL.items_tN, FL.items_tT, FL.ty_i, FL.ty_n, FL.ty_tN, FL.ty_tT, FL.kit_ii, FL.kit_ib, FL.kit_tt, FL.kit_lt, FL.same_tN, FL.same_l, FL.arr_n, FL.arr_c, List.getElem?_cons_zero, List.getElem?_cons_succ, List.set_cons_zero, List.set_cons_succ, List.length_cons, List.length_nil, List.map_cons, List.map_nil, List.cons_append, List.nil_append, Bool.not_true, Bool.not_false, if_true, if_false, Bool.false_eq_true, FL.R.bind, eq_self, and_self, decide_true, decide_false, Option.bind_some, Option.map_some, List.length_map, FL.wipeE, FL.backE, c, c1, c2, c3, g, c5]
      · refine ⟨decide ((t : Int) < 4), q', hq', ?_⟩
        cases e2 : decide ((t : Int) < 4) <;> rw [e2] at c4 <;> simp (config := { implicitDefEqProofs := false }) only [cnd, SB, FL.lift_a, FL.eC_a, FL.eV_a, FL.eN_a, FL.eP_p, FL.rd_d, FL.rd_i, FL.rd_p, FL.toSrc_a, FL.e1_a, FL.e2_a, FL.eCmp_a, FL.eBool_a, FL.eChain_a, FL.eChain_t, FL.pure_a, FL.eTruth_a, FL.bNot_a, FL.bAnd_a, FL.bOr_a, FL.bYes_a, FL.eIf_a, FL.vAnd_a, FL.vOr_a, FL.asBool_a, FL.eNil_a, FL.eCons_a, FL.eTup_a, FL.eLst_a, FL.eL_a, FL.eIx_a, FL.eSl_a, FL.pNo_a, FL.pSo_a, FL.asInt_a, FL.sNil_a, FL.sCons_a, FL.rdA_n, FL.rdA_c, FL.eCall1_a, FL.eCallL_a, FL.eIsi_a, FL.eM1_a, FL.sSeq_a, FL.sSeqL_a, FL.sIfL_a, FL.sNx_a, FL.sBk_a, FL.sCt_a, FL.sRet_a, FL.sRetN_a, FL.sDrop_a, FL.sIf_a, FL.aN_a, FL.aNil_a, FL.aCons_a, FL.aTup_a, FL.aPool_0, FL.aPool_1, FL.aPool_2, FL.sSet_a, FL.sSetO_a, FL.sAsg_a, FL.sApp_a, FL.sExt_a, FL.ePop_a, FL.sStore_a, FL.aSub_a, FL.ownAt_a, FL.putAt_a, FL.sPar_a, FL.mNil_a, FL.mV_a, FL.mO_a, FL.setAll_c, FL.setAll_n, FL.eDm_a, FL.eCall_a, FL.eCallP_a, FL.eCallO_a, FL.eCallOP_a, FL.arrB_a, FL.iEn_a, FL.turn_a, FL.fnB_a, FL.fnL_a, FL.rep_s, FL.rep_z, FL.few_z, FL.few_1, FL.few_2, FL.few_3, FL.gAdd_i, FL.gSub_i, FL.cLt_i, FL.cLe_i, FL.cGt_i, FL.cGe_i, FL.cNe_i, FL.cEq_str, FL.cNe_str, FL.eqv_b, FL.cEq_b, FL.truth_b, FL.truth_i, FL.truth_l, FL.truth_t, FL.gLen_l, FL.gLen_t, FL.gInt_i, FL.gTup_l, FL.gTup_t, FL.items_l, FL.items_t, FL.cIs_b, FL.gIx_l0, FL.gIx_l1, FL.gIx_l2, FL.gIx_t0, FL.gIx_t1, FL.gIx_t2, FL.cLt_in, FL.cLe_n, FL.cLe_ni, FL.cLe_in, FL.cGt_n, FL.cGt_ni, FL.cGe_n, FL.cGe_ni, FL.cEq_n, FL.cEq_in, FL.cNe_n, FL.cNe_ni, FL.gAdd_n, FL.gAdd_ni, FL.gAdd_in, FL.gSub_ni, FL.gSub_nn, FL.gSub_in, FL.gInt_n, FL.cEq_tN, FL.cNe_tN, FL.cEq_lN, FL.sh_nilL, FL.sh_nilT, FL.gLen_tN, FL.gLen_tT, FL.gIx_tN, FL.gIx_tT, FL.items_tN, FL.items_tT, FL.ty_i, FL.ty_n, FL.ty_tN, FL.ty_tT, FL.kit_ii, FL.kit_ib, FL.kit_tt, FL.kit_lt, FL.same_tN, FL.same_l, FL.arr_n, FL.arr_c, List.getElem?_cons_zero, List.getElem?_cons_succ, List.set_cons_zero, List.set_cons_succ, List.length_cons, List.length_nil, List.map_cons, List.map_nil, List.cons_append, List.nil_append, Bool.not_true, Bool.not_false, if_true, if_false, Bool.false_eq_true, FL.R.bind, eq_self, and_self, decide_true, decide_false, Option.bind_some, Option.map_some, List.length_map, FL.wipeE, FL.backE, c, c1, c2, c3, g, c5, c4, hF]
    obtain ⟨b, q2, h1, h2⟩ := key _ hd'
    exact ⟨b, q2, h1, h2, fun h => by cases h⟩
  | 4, _ =>
    obtain ⟨t, q', _, hq', hd⟩ := draw_nat (m := 3) hq (by omega) (by omega)
    have hd' : f__law_draw [poolD, .int 3] (some q) = .ok (nD t) (some q') := hd
    have c : cIn false (nD 4) (.tuple [.int 0, .int 3]) = some false := rfl
    have c1 : cEq (nD 4) (.int 1) = some false := rfl
    have c2 : cEq (nD 4) (.int 2) = some false := rfl
    have c3 : cEq (nD 4) (.int 4) = some true := rfl
    have c4 : cGt (nD t) (.int 0) = some (decide ((0 : Int) < t)) := cGt_ni
    have key : ∀ F : Fn, F [poolD, .int 3] (some q) = .ok (nD t) (some q') → cnd F (SB n 4 kp rows ps (.v (nD i)) (.v (nD j)) .no .no q) = .ok (decide ((0 : Int) < t)) (SB n 4 kp rows ps (.v (nD i)) (.v (nD j)) .no .no q') := by
      intro F hF
      cases e : decide ((0 : Int) < t) <;> rw [e] at c4 <;> simp (config := { implicitDefEqProofs := false }) only [cnd, SB, FL.lift_a, FL.eC_a, FL.eV_a, FL.eN_a, FL.eP_p, FL.rd_d, FL.rd_i, FL.rd_p, FL.toSrc_a, FL.e1_a, FL.e2_a, FL.eCmp_a, FL.eBool_a, FL.eChain_a, FL.eChain_t, FL.pure_a, FL.eTruth_a, FL.bNot_a, FL.bAnd_a, FL.bOr_a, FL.bYes_a, FL.eIf_a, FL.vAnd_a, FL.vOr_a, FL.asBool_a, FL.eNil_a, FL.eCons_a, FL.eTup_a, FL.eLst_a, FL.eL_a, FL.eIx_a, FL.eSl_a, FL.pNo_a, FL.pSo_a, FL.asInt_a, FL.sNil_a, FL.sCons_a, FL.rdA_n, FL.rdA_c, FL.eCall1_a, FL.eCallL_a, FL.eIsi_a, FL.eM1_a, FL.sSeq_a, FL.sSeqL_a, FL.sIfL_a, FL.sNx_a, FL.sBk_a, FL.sCt_a, FL.sRet_a, FL.sRetN_a, FL.sDrop_a, FL.sIf_a, FL.aN_a, FL.aNil_a, FL.aCons_a, FL.aTup_a, FL.aPool_0, FL.aPool_1, FL.aPool_2, FL.sSet_a, FL.sSetO_a, FL.sAsg_a, FL.sApp_a, FL.sExt_a, FL.ePop_a, FL.sStore_a, FL.aSub_a, FL.ownAt_a, FL.putAt_a, FL.sPar_a, FL.mNil_a, FL.mV_a, FL.mO_a, FL.setAll_c, FL.setAll_n, FL.eDm_a, FL.eCall_a, FL.eCallP_a, FL.eCallO_a, FL.eCallOP_a, FL.arrB_a, FL.iEn_a, FL.turn_a, FL.fnB_a, FL.fnL_a, FL.rep_s, FL.rep_z, FL.few_z, FL.few_1, FL.few_2, FL.few_3, FL.gAdd_i, FL.gSub_i, FL.cLt_i, FL.cLe_i, FL.cGt_i, FL.cGe_i, FL.cEq_i, FL.cNe_i, FL.cEq_str, FL.cNe_str, FL.eqv_b, FL.cEq_b, FL.truth_b, FL.truth_i, FL.truth_l, FL.truth_t, FL.gLen_l, FL.gLen_t, FL.gInt_i, FL.gTup_l, FL.gTup_t, FL.items_l, FL.items_t, FL.cIs_b, FL.gIx_l0, FL.gIx_l1, FL.gIx_l2, FL.gIx_t0, FL.gIx_t1, FL.gIx_t2, FL.cLt_n, FL.cLt_ni, FL.cLt_in, FL.cLe_n, FL.cLe_ni, FL.cLe_in, FL.cGt_n, FL.cGe_n, FL.cGe_ni, FL.cEq_n, FL.cEq_in, FL.cNe_n, FL.cNe_ni, FL.gAdd_n, FL.gAdd_ni, FL.gAdd_in, FL.gSub_ni, FL.gSub_nn, FL.gSub_in, FL.gInt_n, FL.cEq_tN, FL.cNe_tN, FL.cEq_lN, FL.sh_nilL, FL.sh_nilT, FL.gLen_tN, FL.gLen_tT, FL.gIx_tN, FL.gIx_tT, FL.items_tN, FL.items_tT, FL.ty_i, FL.ty_n, FL.ty_tN, FL.ty_tT, FL.kit_ii, FL.kit_ib, FL.kit_tt, FL.kit_lt, FL.same_tN, FL.same_l, FL.arr_n, FL.arr_c, List.getElem?_cons_zero, List.getElem?_cons_succ, List.set_cons_zero, List.set_cons_succ, List.length_cons, List.length_nil, List.map_cons, List.map_nil, List.cons_append, List.nil_append, Bool.not_true, Bool.not_false, if_true, if_false, Bool.false_eq_true, FL.R.bind, eq_self, and_self, decide_true, decide_false, Option.bind_some, Option.map_some, List.length_map, FL.wipeE, FL.backE, c, c1, c2, c3, c4, hF]
    exact ⟨_, q', hq', key _ hd', fun h => by cases h⟩
  | w + 5, h => omega
abbrev pIf (C : B Bool) : B Fl := sIf C (sApp 5 (eTup (eCons (eV 6) (eCons (eV 7) (eNil))))) (sNx)
theorem pIf_key {C : B Bool} {n w kp i j : Nat} {rows ps : List (List Nat)} {q q' : List Int} {b : Bool} (hz : ps.length < sizeLine) (h : C (SB n w kp rows ps (.v (nD i)) (.v (nD j)) .no .no q) = .ok b (SB n w kp rows ps (.v (nD i)) (.v (nD j)) .no .no q')) :
    pIf C (SB n w kp rows ps (.v (nD i)) (.v (nD j)) .no .no q) = .ok .nx (SB n w kp rows (ps ++ (if b = true then [[i, j]] else [])) (.v (nD i)) (.v (nD j)) .no .no q') := by
  have hz' : (ps.map tN).length < sizeLine := by rw [List.length_map]; exact hz
  simp only [SB] at h
  cases b with
  | false =>
    simp (config := { implicitDefEqProofs := false }) only [pIf, SB, FL.lift_a, FL.eC_a, FL.eV_a, FL.eN_a, FL.eP_p, FL.rd_d, FL.rd_i, FL.rd_p, FL.toSrc_a, FL.e1_a, FL.e2_a, FL.eCmp_a, FL.eBool_a, FL.eChain_a, FL.eChain_t, FL.pure_a, FL.eTruth_a, FL.bNot_a, FL.bAnd_a, FL.bOr_a, FL.bYes_a, FL.eIf_a, FL.vAnd_a, FL.vOr_a, FL.asBool_a, FL.eNil_a, FL.eCons_a, FL.eTup_a, FL.eLst_a, FL.eL_a, FL.eIx_a, FL.eSl_a, FL.pNo_a, FL.pSo_a, FL.asInt_a, FL.sNil_a, FL.sCons_a, FL.rdA_n, FL.rdA_c, FL.eCall1_a, FL.eCallL_a, FL.eIsi_a, FL.eM1_a, FL.sSeq_a, FL.sSeqL_a, FL.sIfL_a, FL.sNx_a, FL.sBk_a, FL.sCt_a, FL.sRet_a, FL.sRetN_a, FL.sDrop_a, FL.sIf_a, FL.aN_a, FL.aNil_a, FL.aCons_a, FL.aTup_a, FL.aPool_0, FL.aPool_1, FL.aPool_2, FL.sSet_a, FL.sSetO_a, FL.sAsg_a, FL.sApp_a, FL.sExt_a, FL.ePop_a, FL.sStore_a, FL.aSub_a, FL.ownAt_a, FL.putAt_a, FL.sPar_a, FL.mNil_a, FL.mV_a, FL.mO_a, FL.setAll_c, FL.setAll_n, FL.eDm_a, FL.eCall_a, FL.eCallP_a, FL.eCallO_a, FL.eCallOP_a, FL.arrB_a, FL.iEn_a, FL.turn_a, FL.fnB_a, FL.fnL_a, FL.rep_s, FL.rep_z, FL.few_z, FL.few_1, FL.few_2, FL.few_3, FL.gAdd_i, FL.gSub_i, FL.cLt_i, FL.cLe_i, FL.cGt_i, FL.cGe_i, FL.cEq_i, FL.cNe_i, FL.cEq_str, FL.cNe_str, FL.eqv_b, FL.cEq_b, FL.truth_b, FL.truth_i, FL.truth_l, FL.truth_t, FL.gLen_l, FL.gLen_t, FL.gInt_i, FL.gTup_l, FL.gTup_t, FL.items_l, FL.items_t, FL.cIs_b, FL.gIx_l0, FL.gIx_l1, FL.gIx_l2, FL.gIx_t0, FL.gIx_t1, FL.gIx_t2, FL.cLt_n, FL.cLt_ni, FL.cLt_in, FL.cLe_n, FL.cLe_ni, FL.cLe_in, FL.cGt_n, FL.cGt_ni, FL.cGe_n, FL.cGe_ni, FL.cEq_n, FL.cEq_ni, FL.cEq_in, FL.cNe_n, FL.cNe_ni, FL.gAdd_n, FL.gAdd_ni, FL.gAdd_in, FL.gSub_ni, FL.gSub_nn, FL.gSub_in, FL.gInt_n, FL.cEq_tN, FL.cNe_tN, FL.cEq_lN, FL.sh_nilL, FL.sh_nilT, FL.gLen_tN, FL.gLen_tT, FL.gIx_tN, FL.gIx_tT, FL.items_tN, FL.items_tT, FL.ty_i, FL.ty_n, FL.ty_tN, FL.ty_tT, FL.kit_ii, FL.kit_ib, FL.kit_tt, FL.kit_lt, FL.same_tN, FL.same_l, FL.arr_n, FL.arr_c, List.getElem?_cons_zero, List.getElem?_cons_succ, List.set_cons_zero, List.set_cons_succ, List.length_cons, List.length_nil, List.map_cons, List.map_nil, List.cons_append, List.nil_append, Bool.not_true, Bool.not_false, if_true, if_false, Bool.false_eq_true, FL.R.bind, eq_self, and_self, decide_true, decide_false, Option.bind_some, Option.map_some, List.length_map, FL.wipeE, FL.backE, h, List.append_nil]
  | true =>
    have ht : PyData.tuple [nD i, nD j] = tN [i, j] := rfl
    simp (config := { implicitDefEqProofs := false }) only [pIf, SB, FL.lift_a, FL.eC_a, FL.eV_a, FL.eN_a, FL.eP_p, FL.rd_d, FL.rd_i, FL.rd_p, FL.toSrc_a, FL.e1_a, FL.e2_a, FL.eCmp_a, FL.eBool_a, FL.eChain_a, FL.eChain_t, FL.pure_a, FL.eTruth_a, FL.bNot_a, FL.bAnd_a, FL.bOr_a, FL.bYes_a, FL.eIf_a, FL.vAnd_a, FL.vOr_a, FL.asBool_a, FL.eNil_a, FL.eCons_a, FL.eTup_a, FL.eLst_a, FL.eL_a, FL.eIx_a, FL.eSl_a, FL.pNo_a, FL.pSo_a, FL.asInt_a, FL.sNil_a, FL.sCons_a, FL.rdA_n, FL.rdA_c, FL.eCall1_a, FL.eCallL_a, FL.eIsi_a, FL.eM1_a, FL.sSeq_a, FL.sSeqL_a, FL.sIfL_a, FL.sNx_a, FL.sBk_a, FL.sCt_a, FL.sRet_a, FL.sRetN_a, FL.sDrop_a, FL.sIf_a, FL.aN_a, FL.aNil_a, FL.aCons_a, FL.aTup_a, FL.aPool_0, FL.aPool_1, FL.aPool_2, FL.sSet_a, FL.sSetO_a, FL.sAsg_a, FL.sApp_a, FL.sExt_a, FL.ePop_a, FL.sStore_a, FL.aSub_a, FL.ownAt_a, FL.putAt_a, FL.sPar_a, FL.mNil_a, FL.mV_a, FL.mO_a, FL.setAll_c, FL.setAll_n, FL.eDm_a, FL.eCall_a, FL.eCallP_a, FL.eCallO_a, FL.eCallOP_a, FL.arrB_a, FL.iEn_a, FL.turn_a, FL.fnB_a, FL.fnL_a, FL.rep_s, FL.rep_z, FL.few_z, FL.few_1, FL.few_2, FL.few_3, FL.gAdd_i, FL.gSub_i, FL.cLt_i, FL.cLe_i, FL.cGt_i, FL.cGe_i, FL.cEq_i, FL.cNe_i, FL.cEq_str, FL.cNe_str, FL.eqv_b, FL.cEq_b, FL.truth_b, FL.truth_i, FL.truth_l, FL.truth_t, FL.gLen_l, FL.gLen_t, FL.gInt_i, FL.gTup_l, FL.gTup_t, FL.items_l, FL.items_t, FL.cIs_b, FL.gIx_l0, FL.gIx_l1, FL.gIx_l2, FL.gIx_t0, FL.gIx_t1, FL.gIx_t2, FL.cLt_n, FL.cLt_ni, FL.cLt_in, FL.cLe_n, FL.cLe_ni, FL.cLe_in, FL.cGt_n, FL.cGt_ni, FL.cGe_n, FL.cGe_ni, FL.cEq_n, FL.cEq_ni, FL.cEq_in, FL.cNe_n, FL.cNe_ni, FL.gAdd_n, FL.gAdd_ni, FL.gAdd_in, FL.gSub_ni, FL.gSub_nn, FL.gSub_in, FL.gInt_n, FL.cEq_tN, FL.cNe_tN, FL.cEq_lN, FL.sh_nilL, FL.sh_nilT, FL.gLen_tN, FL.gLen_tT, FL.gIx_tN, FL.gIx_tT, FL.items_tN, FL.items_tT, FL.ty_i, FL.ty_n, FL.ty_tN, FL.ty_tT, FL.kit_ii, FL.kit_ib, FL.kit_tt, FL.kit_lt, FL.same_tN, FL.same_l, FL.arr_n, FL.arr_c, List.getElem?_cons_zero, List.getElem?_cons_succ, List.set_cons_zero, List.set_cons_succ, List.length_cons, List.length_nil, List.map_cons, List.map_nil, List.cons_append, List.nil_append, Bool.not_true, Bool.not_false, if_true, if_false, Bool.false_eq_true, FL.R.bind, eq_self, and_self, decide_true, decide_false, Option.bind_some, Option.map_some, FL.wipeE, FL.backE, h, ht, hz', ownAt_a, putAt_a, List.map_append]
end M
set_option maxHeartbeats 4000000
/-! k03: drawn books. -/
namespace M
open PySem PySem.Spec PyProof.Rows L2 FL
theorem iR2_i {fa fb : B D} {s s1 s2 : S} {i j : Int} (ha : fa s = .ok (.int i) s1) (hb : fb s1 = .ok (.int j) s2) (h : -(2 ^ 62) ≤ i ∧ i < 2 ^ 62 ∧ -(2 ^ 62) ≤ j ∧ j < 2 ^ 62) : iR2 fa fb s = .ok (rangeD i j) s2 := by
  unfold iR2
  rw [bind_def, ha]
  simp only [R.bind]
  rw [bind_def, hb]
  simp only [R.bind]
  rw [if_pos h]
  simp only [FL.lift]
theorem rangeD_ab (a b : Nat) : rangeD (a : Int) (b : Int) = (List.range (b - a)).map fun t => nD (a + t) := by
  unfold rangeD
  have e : ((b : Int) - (a : Int)).toNat = b - a := by omega
  rw [e]
  apply List.map_congr_left
  intro t _
  show PyData.int ((a : Int) + (t : Nat)) = PyData.int ((a + t : Nat) : Int)
  rw [Int.natCast_add]
theorem iR2_r {fa fb : B D} {s s1 s2 : S} {a b : Nat} (ha : fa s = .ok (nD a) s1) (hb : fb s1 = .ok (nD b) s2) (h1 : a ≤ 1000) (h2 : b ≤ 1000) : iR2 fa fb s = .ok ((List.range (b - a)).map fun t => nD (a + t)) s2 := by
  rw [iR2_i (i := a) (j := b) ha hb ⟨by omega, by omega, by omega, by omega⟩, rangeD_ab]
def VN (s : Sl) : Prop := s = .no ∨ ∃ d, s = .v d
abbrev inL : B Fl := sFor (iR2 (e2 gAdd (eV 6) (eC (.int 1))) (eV 1)) (aN 7) (pIf (cnd f__law_draw))
theorem inL_ok {n w kp i : Nat} {ps : List (List Nat)} {q : List Int} {s7 : Sl} (hn : n ≤ 7) (hi : i < n) (hw : w < 5) (hq : PoolOk q) (hp : PairsOk n ps) (hl : ps.length ≤ i * 7) (hv : VN s7) (hf : w = 3 → ∀ a b, a < b → b < n → a < i → [a, b] ∈ ps) :
    ∃ ps' s7' q', PoolOk q' ∧ PairsOk n ps' ∧ VN s7' ∧ ps'.length ≤ (i + 1) * 7 ∧ (w = 3 → ∀ a b, a < b → b < n → a < i + 1 → [a, b] ∈ ps') ∧ inL (SB n w kp [] ps (.v (nD i)) s7 .no .no q) = .ok .nx (SB n w kp [] ps' (.v (nD i)) s7' .no .no q') := by
  have hr : iR2 (e2 gAdd (eV 6) (eC (.int 1))) (eV 1) (SB n w kp [] ps (.v (nD i)) s7 .no .no q) = .ok ((List.range (n - (i + 1))).map fun t => nD (i + 1 + t)) (SB n w kp [] ps (.v (nD i)) s7 .no .no q) := by
    refine iR2_r (s1 := SB n w kp [] ps (.v (nD i)) s7 .no .no q) ?_ rfl (by omega) (by omega)
    simp (config := { implicitDefEqProofs := false }) only [SB, FL.lift_a, FL.eC_a, FL.eV_a, FL.eN_a, FL.eP_p, FL.rd_d, FL.rd_i, FL.rd_p, FL.toSrc_a, FL.e1_a, FL.e2_a, FL.eCmp_a, FL.eBool_a, FL.eChain_a, FL.eChain_t, FL.pure_a, FL.eTruth_a, FL.bNot_a, FL.bAnd_a, FL.bOr_a, FL.bYes_a, FL.eIf_a, FL.vAnd_a, FL.vOr_a, FL.asBool_a, FL.eNil_a, FL.eCons_a, FL.eTup_a, FL.eLst_a, FL.eL_a, FL.eIx_a, FL.eSl_a, FL.pNo_a, FL.pSo_a, FL.asInt_a, FL.sNil_a, FL.sCons_a, FL.rdA_n, FL.rdA_c, FL.eCall1_a, FL.eCallL_a, FL.eIsi_a, FL.eM1_a, FL.sSeq_a, FL.sSeqL_a, FL.sIfL_a, FL.sNx_a, FL.sBk_a, FL.sCt_a, FL.sRet_a, FL.sRetN_a, FL.sDrop_a, FL.sIf_a, FL.aN_a, FL.aNil_a, FL.aCons_a, FL.aTup_a, FL.aPool_0, FL.aPool_1, FL.aPool_2, FL.sSet_a, FL.sSetO_a, FL.sAsg_a, FL.sApp_a, FL.sExt_a, FL.ePop_a, FL.sStore_a, FL.aSub_a, FL.ownAt_a, FL.putAt_a, FL.sPar_a, FL.mNil_a, FL.mV_a, FL.mO_a, FL.setAll_c, FL.setAll_n, FL.eDm_a, FL.eCall_a, FL.eCallP_a, FL.eCallO_a, FL.eCallOP_a, FL.arrB_a, FL.iEn_a, FL.turn_a, FL.fnB_a, FL.fnL_a, FL.rep_s, FL.rep_z, FL.few_z, FL.few_1, FL.few_2, FL.few_3, FL.gAdd_i, FL.gSub_i, FL.cLt_i, FL.cLe_i, FL.cGt_i, FL.cGe_i, FL.cEq_i, FL.cNe_i, FL.cEq_str, FL.cNe_str, FL.eqv_b, FL.cEq_b, FL.truth_b, FL.truth_i, FL.truth_l, FL.truth_t, FL.gLen_l, FL.gLen_t, FL.gInt_i, FL.gTup_l, FL.gTup_t, FL.items_l, FL.items_t, FL.cIs_b, FL.gIx_l0, FL.gIx_l1, FL.gIx_l2, FL.gIx_t0, FL.gIx_t1, FL.gIx_t2, FL.cLt_n, FL.cLt_ni, FL.cLt_in, FL.cLe_n, FL.cLe_ni, FL.cLe_in, FL.cGt_n, FL.cGt_ni, FL.cGe_n, FL.cGe_ni, FL.cEq_n, FL.cEq_ni, FL.cEq_in, FL.cNe_n, FL.cNe_ni, FL.gAdd_n, FL.gAdd_in, FL.gSub_ni, FL.gSub_nn, FL.gSub_in, FL.gInt_n, FL.cEq_tN, FL.cNe_tN, FL.cEq_lN, FL.sh_nilL, FL.sh_nilT, FL.gLen_tN, FL.gLen_tT, FL.gIx_tN, FL.gIx_tT, FL.items_tN, FL.items_tT, FL.ty_i, FL.ty_n, FL.ty_tN, FL.ty_tT, FL.kit_ii, FL.kit_ib, FL.kit_tt, FL.kit_lt, FL.same_tN, FL.same_l, FL.arr_n, FL.arr_c, List.getElem?_cons_zero, List.getElem?_cons_succ, List.set_cons_zero, List.set_cons_succ, List.length_cons, List.length_nil, List.map_cons, List.map_nil, List.cons_append, List.nil_append, Bool.not_true, Bool.not_false, if_true, if_false, Bool.false_eq_true, FL.R.bind, eq_self, and_self, decide_true, decide_false, Option.bind_some, Option.map_some, List.length_map, FL.wipeE, FL.backE, gAdd_n1]
  obtain ⟨s', h1, h2⟩ := sFor_inv (a := aN 7) (g := pIf (cnd f__law_draw)) (fun t s => ∃ ps' s7' q', s = SB n w kp [] ps' (.v (nD i)) s7' .no .no q' ∧ PoolOk q' ∧ PairsOk n ps' ∧ VN s7' ∧ ps'.length ≤ i * 7 + t ∧ (w = 3 → ∀ a b, a < b → b < n → (a < i ∨ (a = i ∧ b < i + 1 + t)) → [a, b] ∈ ps')) hr
    ⟨ps, s7, q, rfl, hq, hp, hv, by omega, fun h3 a b h1 h2 h4 => hf h3 a b h1 h2 (by omega)⟩ (fun t d s hd hs => by
      obtain ⟨ps', s7', q', rfl, hq', hp', hv', hl', hf'⟩ := hs
      have ht : t < n - (i + 1) := by have := (List.getElem?_eq_some_iff.mp hd).1; simpa using this
      have ed : d = nD (i + 1 + t) := by
        rw [List.getElem?_map, List.getElem?_range ht] at hd
        simpa using hd.symm
      subst ed
      obtain ⟨b, q2, hq2, hc, hb3⟩ := cnd_ok (n := n) (kp := kp) (i := i) (j := i + 1 + t) (rows := []) (ps := ps') hw hq'
      refine ⟨_, _, rfl, .inl (pIf_key (by rw [sizeLine_eq]; omega) hc), ps' ++ (if b = true then [[i, i + 1 + t]] else []), _, q2, rfl, hq2, fun x hx => ?_, .inr ⟨_, rfl⟩, ?_, fun h3 a c h1 h2 h4 => ?_⟩
      · rcases List.mem_append.mp hx with hx | hx
        · exact hp' x hx
        · split at hx
          · rw [List.mem_singleton.mp hx]
            exact ⟨i, i + 1 + t, rfl, by omega, by omega⟩
          · simp at hx
      · rw [List.length_append]
        split <;> simp <;> omega
      · rw [hb3 h3, if_pos rfl]
        by_cases e : a = i ∧ c = i + 1 + t
        · rw [e.1, e.2]
          exact List.mem_append.mpr (.inr (by simp))
        · exact List.mem_append.mpr (.inl (hf' h3 a c h1 h2 (by omega))))
  obtain ⟨ps', s7', q', rfl, hq', hp', hv', hl', hf'⟩ := h2
  rw [List.length_map, List.length_range] at hl' hf'
  exact ⟨ps', s7', q', hq', hp', hv', by omega, fun h3 a b h1 h2 h4 => hf' h3 a b h1 h2 (by omega), h1⟩
theorem pairs_ok {n w kp : Nat} {q : List Int} (hn : n ≤ 7) (hw : w < 5) (hq : PoolOk q) : ∃ ps s6 s7 q', PoolOk q' ∧ PairsOk n ps ∧ VN s7 ∧ ps.length ≤ 49 ∧ (w = 3 → ∀ a b, a < b → b < n → [a, b] ∈ ps) ∧
    sFor (iR1 (eV 1)) (aN 6) inL (SB n w kp [] [] .no .no .no .no q) = .ok .nx (SB n w kp [] ps s6 s7 .no .no q') := by
  have hr : iR1 (eV 1) (SB n w kp [] [] .no .no .no .no q) = .ok ((List.range n).map nD) (SB n w kp [] [] .no .no .no .no q) := iR1_n rfl (by omega)
  obtain ⟨s', h1, h2⟩ := sFor_inv (a := aN 6) (g := inL) (fun i s => ∃ ps s6 s7 q', s = SB n w kp [] ps s6 s7 .no .no q' ∧ PoolOk q' ∧ PairsOk n ps ∧ VN s7 ∧ ps.length ≤ i * 7 ∧ (w = 3 → ∀ a b, a < b → b < n → a < i → [a, b] ∈ ps)) hr
    ⟨[], _, _, q, rfl, hq, fun x hx => by simp at hx, .inl rfl, Nat.zero_le _, fun _ a b _ _ h => by omega⟩ (fun i d s hd hs => by
      obtain ⟨ps, s6, s7, q', rfl, hq', hp', hv', hl', hf'⟩ := hs
      obtain ⟨hin, rfl⟩ := get_nD hd
      have hi : i < n := by simpa using hin
      have e0 : (List.range n)[i] = i := List.getElem_range _
      rw [e0]
      obtain ⟨ps2, s72, q2, hq2, hp2, hv2, hl2, hf2, hL⟩ := inL_ok (kp := kp) (s7 := s7) hn hi hw hq' hp' hl' hv' hf'
      exact ⟨_, _, rfl, .inl hL, ps2, _, s72, q2, rfl, hq2, hp2, hv2, hl2, hf2⟩)
  obtain ⟨ps, s6, s7, q', rfl, hq', hp', hv', hl', hf'⟩ := h2
  rw [List.length_map, List.length_range] at hl' hf'
  exact ⟨ps, s6, s7, q', hq', hp', hv', by omega, fun h3 a b h1 h2 => hf' h3 a b h1 h2 (by omega), h1⟩
/-! ### rows -/
def nr (n : Nat) (ps : List (List Nat)) (i : Nat) : List Nat := (List.range n).filter fun x => decide ([min i x, max i x] ∈ ps)
theorem mem_nr {n : Nat} {ps : List (List Nat)} {i x : Nat} : x ∈ nr n ps i ↔ x < n ∧ [min i x, max i x] ∈ ps := by
  unfold nr
  rw [List.mem_filter, List.mem_range, decide_eq_true_iff]
theorem nr_ne {n : Nat} {ps : List (List Nat)} (hp : PairsOk n ps) {i x : Nat} (h : x ∈ nr n ps i) : x ≠ i := by
  intro e
  subst e
  obtain ⟨a, b, e, hab, _⟩ := hp _ (mem_nr.mp h).2
  simp at e
  omega
theorem nr_nd {n : Nat} {ps : List (List Nat)} {i : Nat} : (nr n ps i).Nodup := List.nodup_range.filter _
def rot (n i : Nat) : List Nat := (List.range (n - 1)).map fun t => (i + (1 + t)) % n
theorem rot_perm {n : Nat} {ps : List (List Nat)} {i : Nat} (hi : i < n) (hn : n ≤ 7) (hp : PairsOk n ps) (hf : ∀ a b, a < b → b < n → [a, b] ∈ ps) : (rot n i).Perm (nr n ps i) := by
  have e : nr n ps i = (List.range n).filter fun x => decide (x ≠ i) := by
    unfold nr
    apply List.filter_congr
    intro x hx
    have hx := List.mem_range.mp hx
    apply decide_eq_decide.mpr
    constructor
    · intro h e
      subst e
      obtain ⟨a, b, e, hab, _⟩ := hp _ h
      simp at e
      omega
    · intro h
      rcases Nat.lt_or_ge x i with h1 | h1
      · rw [Nat.min_eq_right (by omega), Nat.max_eq_left (by omega)]
        exact hf x i h1 hi
      · rw [Nat.min_eq_left (by omega), Nat.max_eq_right (by omega)]
        exact hf i x (by omega) hx
  rw [e]
  have all : ∀ n, n < 8 → ∀ i, i < n → (rot n i).Perm ((List.range n).filter fun x => decide (x ≠ i)) := by decide +kernel
  exact all n (by omega) i hi
abbrev nC : B (List D) := eLc (iR1 (eV 1)) [7] (aN 7) (eCmp (cIn false) (toSrc (eTup (eCons (eCall1 gMin2 (sCons (eN 6) (sCons (eN 7) (sNil)))) (eCons (eCall1 gMax2 (sCons (eN 6) (sCons (eN 7) (sNil)))) (eNil))))) (eN 5)) (eV 7)
theorem gMin2_n (a b : Nat) : gMin2 [nD a, nD b] = some (nD (min a b)) := by
  show some (PyData.int (if (b : Int) < a then (b : Int) else a)) = _
  have : (if (b : Int) < a then (b : Int) else a) = ((min a b : Nat) : Int) := by split <;> omega
  rw [this]
  rfl
theorem gMax2_n (a b : Nat) : gMax2 [nD a, nD b] = some (nD (max a b)) := by
  show some (PyData.int (if (b : Int) > a then (b : Int) else a)) = _
  have : (if (b : Int) > a then (b : Int) else a) = ((max a b : Nat) : Int) := by split <;> omega
  rw [this]
  rfl
theorem nC_ok {n w kp i : Nat} {rows ps : List (List Nat)} {s7 s8 s9 : Sl} {q : List Int} (hn : n ≤ 7) (hv : VN s7) :
    nC (SB n w kp rows ps (.v (nD i)) s7 s8 s9 q) = .ok ((nr n ps i).map nD) (SB n w kp rows ps (.v (nD i)) s7 s8 s9 q) := by
  have hf : iR1 (eV 1) (SB n w kp rows ps (.v (nD i)) s7 s8 s9 q) = .ok ((List.range n).map nD) (SB n w kp rows ps (.v (nD i)) s7 s8 s9 q) := iR1_n rfl (by omega)
  have e1 : (nr n ps i).map nD = (List.range n).filterMap fun x => if decide ([min i x, max i x] ∈ ps) = true then some (nD x) else none := by
    rw [fm_if nD fun x => decide ([min i x, max i x] ∈ ps)]
    rfl
  rw [e1]
  refine eLc_filterA nD _ _ hf (fun x hx => ⟨[Sl.v poolD, .v (nD n), .v (nD w), .v (nD kp), .l (rows.map tN), .l (ps.map tN), .v (nD i), .v (nD x), s8, s9, .no], ?_, ?_⟩) (by rw [List.length_range, sizeLine_eq]; omega)
  · have hc := cIn_lT false [min i x, max i x] ps
    simp only [Bool.false_eq_true, if_false] at hc
    have ht : PyData.tuple [nD (min i x), nD (max i x)] = tN [min i x, max i x] := rfl
    have g1 := gMin2_n i x
    have g2 := gMax2_n i x
    cases c : decide ([min i x, max i x] ∈ ps) <;> rw [c] at hc
    · simp (config := { implicitDefEqProofs := false }) only [SB, FL.lift_a, FL.eC_a, FL.eV_a, FL.eN_a, FL.eP_p, FL.rd_d, FL.rd_i, FL.rd_p, FL.toSrc_a, FL.e1_a, FL.e2_a, FL.eCmp_a, FL.eBool_a, FL.eChain_a, FL.eChain_t, FL.pure_a, FL.eTruth_a, FL.bNot_a, FL.bAnd_a, FL.bOr_a, FL.bYes_a, FL.eIf_a, FL.vAnd_a, FL.vOr_a, FL.asBool_a, FL.eNil_a, FL.eCons_a, FL.eTup_a, FL.eLst_a, FL.eL_a, FL.eIx_a, FL.eSl_a, FL.pNo_a, FL.pSo_a, FL.asInt_a, FL.sNil_a, FL.sCons_a, FL.rdA_n, FL.rdA_c, FL.eCall1_a, FL.eCallL_a, FL.eIsi_a, FL.eM1_a, FL.sSeq_a, FL.sSeqL_a, FL.sIfL_a, FL.sNx_a, FL.sBk_a, FL.sCt_a, FL.sRet_a, FL.sRetN_a, FL.sDrop_a, FL.sIf_a, FL.aN_a, FL.aNil_a, FL.aCons_a, FL.aTup_a, FL.aPool_0, FL.aPool_1, FL.aPool_2, FL.sSet_a, FL.sSetO_a, FL.sAsg_a, FL.sApp_a, FL.sExt_a, FL.ePop_a, FL.sStore_a, FL.aSub_a, FL.ownAt_a, FL.putAt_a, FL.sPar_a, FL.mNil_a, FL.mV_a, FL.mO_a, FL.setAll_c, FL.setAll_n, FL.eDm_a, FL.eCall_a, FL.eCallP_a, FL.eCallO_a, FL.eCallOP_a, FL.arrB_a, FL.iEn_a, FL.turn_a, FL.fnB_a, FL.fnL_a, FL.rep_s, FL.rep_z, FL.few_z, FL.few_1, FL.few_2, FL.few_3, FL.gAdd_i, FL.gSub_i, FL.cLt_i, FL.cLe_i, FL.cGt_i, FL.cGe_i, FL.cEq_i, FL.cNe_i, FL.cEq_str, FL.cNe_str, FL.eqv_b, FL.cEq_b, FL.truth_b, FL.truth_i, FL.truth_l, FL.truth_t, FL.gLen_l, FL.gLen_t, FL.gInt_i, FL.gTup_l, FL.gTup_t, FL.items_l, FL.items_t, FL.cIs_b, FL.gIx_l0, FL.gIx_l1, FL.gIx_l2, FL.gIx_t0, FL.gIx_t1, FL.gIx_t2, FL.cLt_n, FL.cLt_ni, FL.cLt_in, FL.cLe_n, FL.cLe_ni, FL.cLe_in, FL.cGt_n, FL.cGt_ni, FL.cGe_n, FL.cGe_ni, FL.cEq_n, FL.cEq_ni, FL.cEq_in, FL.cNe_n, FL.cNe_ni, FL.gAdd_n, FL.gAdd_ni, FL.gAdd_in, FL.gSub_ni, FL.gSub_nn, FL.gSub_in, FL.gInt_n, FL.cEq_tN, FL.cNe_tN, FL.cEq_lN, FL.sh_nilL, FL.sh_nilT, FL.gLen_tN, FL.gLen_tT, FL.gIx_tN, FL.gIx_tT, FL.items_tN, FL.items_tT, FL.ty_i, FL.ty_n, FL.ty_tN, FL.ty_tT, FL.kit_ii, FL.kit_ib, FL.kit_tt, FL.kit_lt, FL.same_tN, FL.same_l, FL.arr_n, FL.arr_c, List.getElem?_cons_zero, List.getElem?_cons_succ, List.set_cons_zero, List.set_cons_succ, List.length_cons, List.length_nil, List.map_cons, List.map_nil, List.cons_append, List.nil_append, Bool.not_true, Bool.not_false, if_true, if_false, Bool.false_eq_true, FL.R.bind, eq_self, and_self, decide_true, decide_false, Option.bind_some, Option.map_some, List.length_map, FL.wipeE, FL.backE, g1, g2, ht, hc]
    · simp (config := { implicitDefEqProofs := false }) only [SB, FL.lift_a, FL.eC_a, FL.eV_a, FL.eN_a, FL.eP_p, FL.rd_d, FL.rd_i, FL.rd_p, FL.toSrc_a, FL.e1_a, FL.e2_a, FL.eCmp_a, FL.eBool_a, FL.eChain_a, FL.eChain_t, FL.pure_a, FL.eTruth_a, FL.bNot_a, FL.bAnd_a, FL.bOr_a, FL.bYes_a, FL.eIf_a, FL.vAnd_a, FL.vOr_a, FL.asBool_a, FL.eNil_a, FL.eCons_a, FL.eTup_a, FL.eLst_a, FL.eL_a, FL.eIx_a, FL.eSl_a, FL.pNo_a, FL.pSo_a, FL.asInt_a, FL.sNil_a, FL.sCons_a, FL.rdA_n, FL.rdA_c, FL.eCall1_a, FL.eCallL_a, FL.eIsi_a, FL.eM1_a, FL.sSeq_a, FL.sSeqL_a, FL.sIfL_a, FL.sNx_a, FL.sBk_a, FL.sCt_a, FL.sRet_a, FL.sRetN_a, FL.sDrop_a, FL.sIf_a, FL.aN_a, FL.aNil_a, FL.aCons_a, FL.aTup_a, FL.aPool_0, FL.aPool_1, FL.aPool_2, FL.sSet_a, FL.sSetO_a, FL.sAsg_a, FL.sApp_a, FL.sExt_a, FL.ePop_a, FL.sStore_a, FL.aSub_a, FL.ownAt_a, FL.putAt_a, FL.sPar_a, FL.mNil_a, FL.mV_a, FL.mO_a, FL.setAll_c, FL.setAll_n, FL.eDm_a, FL.eCall_a, FL.eCallP_a, FL.eCallO_a, FL.eCallOP_a, FL.arrB_a, FL.iEn_a, FL.turn_a, FL.fnB_a, FL.fnL_a, FL.rep_s, FL.rep_z, FL.few_z, FL.few_1, FL.few_2, FL.few_3, FL.gAdd_i, FL.gSub_i, FL.cLt_i, FL.cLe_i, FL.cGt_i, FL.cGe_i, FL.cEq_i, FL.cNe_i, FL.cEq_str, FL.cNe_str, FL.eqv_b, FL.cEq_b, FL.truth_b, FL.truth_i, FL.truth_l, FL.truth_t, FL.gLen_l, FL.gLen_t, FL.gInt_i, FL.gTup_l, FL.gTup_t, FL.items_l, FL.items_t, FL.cIs_b, FL.gIx_l0, FL.gIx_l1, FL.gIx_l2, FL.gIx_t0, FL.gIx_t1, FL.gIx_t2, FL.cLt_n, FL.cLt_ni, FL.cLt_in, FL.cLe_n, FL.cLe_ni, FL.cLe_in, FL.cGt_n, FL.cGt_ni, FL.cGe_n, FL.cGe_ni, FL.cEq_n, FL.cEq_ni, FL.cEq_in, FL.cNe_n, FL.cNe_ni, FL.gAdd_n, FL.gAdd_ni, FL.gAdd_in, FL.gSub_ni, FL.gSub_nn, FL.gSub_in, FL.gInt_n, FL.cEq_tN, FL.cNe_tN, FL.cEq_lN, FL.sh_nilL, FL.sh_nilT, FL.gLen_tN, FL.gLen_tT, FL.gIx_tN, FL.gIx_tT, FL.items_tN, FL.items_tT, FL.ty_i, FL.ty_n, FL.ty_tN, FL.ty_tT, FL.kit_ii, FL.kit_ib, FL.kit_tt, FL.kit_lt, FL.same_tN, FL.same_l, FL.arr_n, FL.arr_c, List.getElem?_cons_zero, List.getElem?_cons_succ, List.set_cons_zero, List.set_cons_succ, List.length_cons, List.length_nil, List.map_cons, List.map_nil, List.cons_append, List.nil_append, Bool.not_true, Bool.not_false, if_true, if_false, Bool.false_eq_true, FL.R.bind, eq_self, and_self, decide_true, decide_false, Option.bind_some, Option.map_some, List.length_map, FL.wipeE, FL.backE, g1, g2, ht, hc]
  · rcases hv with rfl | ⟨d, rfl⟩ <;> rfl
abbrev rotC : B (List D) := eLc (iR2 (eC (.int 1)) (eV 1)) [10] (aN 10) (bYes) (e2 gMod (eCall1 gInt (sCons (toSrc (e2 gAdd (eV 6) (eV 10))) (sNil))) (eV 1))
theorem rotC_ok {n w kp i : Nat} {rows ps : List (List Nat)} {s7 s8 s9 : Sl} {q : List Int} (h1 : 1 ≤ n) (hn : n ≤ 7) : rotC (SB n w kp rows ps (.v (nD i)) s7 s8 s9 q) = .ok ((rot n i).map nD) (SB n w kp rows ps (.v (nD i)) s7 s8 s9 q) := by
  have hf : iR2 (eC (.int 1)) (eV 1) (SB n w kp rows ps (.v (nD i)) s7 s8 s9 q) = .ok ((List.range (n - 1)).map fun t => nD (1 + t)) (SB n w kp rows ps (.v (nD i)) s7 s8 s9 q) := iR2_r (a := 1) (s1 := SB n w kp rows ps (.v (nD i)) s7 s8 s9 q) rfl rfl (by omega) (by omega)
  have e1 : (rot n i).map nD = (List.range (n - 1)).filterMap fun t => some (nD ((i + (1 + t)) % n)) := by
    unfold rot
    rw [List.map_map, ← List.filterMap_eq_map]
    rfl
  rw [e1]
  refine eLc_filterA (fun t => nD (1 + t)) _ _ hf (fun t ht => ⟨[Sl.v poolD, .v (nD n), .v (nD w), .v (nD kp), .l (rows.map tN), .l (ps.map tN), .v (nD i), s7, s8, s9, .v (nD (1 + t))], ?_, rfl⟩) (by rw [List.length_range, sizeLine_eq]; omega)
  have hm : gMod (nD (i + (1 + t))) (nD n) = some (nD ((i + (1 + t)) % n)) := by
    have := gMod_i (a := ((i + (1 + t) : Nat) : Int)) (b := (n : Int)) (by omega)
    have e : (((i + (1 + t) : Nat) : Int)).fmod (n : Int) = (((i + (1 + t)) % n : Nat) : Int) := by
      rw [Int.fmod_eq_emod_of_nonneg _ (by omega)]
      exact (Int.natCast_emod _ _).symm
    rw [e] at this
    exact this
  simp (config := { implicitDefEqProofs := false }) only [SB, FL.lift_a, FL.eC_a, FL.eV_a, FL.eN_a, FL.eP_p, FL.rd_d, FL.rd_i, FL.rd_p, FL.toSrc_a, FL.e1_a, FL.e2_a, FL.eCmp_a, FL.eBool_a, FL.eChain_a, FL.eChain_t, FL.pure_a, FL.eTruth_a, FL.bNot_a, FL.bAnd_a, FL.bOr_a, FL.bYes_a, FL.eIf_a, FL.vAnd_a, FL.vOr_a, FL.asBool_a, FL.eNil_a, FL.eCons_a, FL.eTup_a, FL.eLst_a, FL.eL_a, FL.eIx_a, FL.eSl_a, FL.pNo_a, FL.pSo_a, FL.asInt_a, FL.sNil_a, FL.sCons_a, FL.rdA_n, FL.rdA_c, FL.eCall1_a, FL.eCallL_a, FL.eIsi_a, FL.eM1_a, FL.sSeq_a, FL.sSeqL_a, FL.sIfL_a, FL.sNx_a, FL.sBk_a, FL.sCt_a, FL.sRet_a, FL.sRetN_a, FL.sDrop_a, FL.sIf_a, FL.aN_a, FL.aNil_a, FL.aCons_a, FL.aTup_a, FL.aPool_0, FL.aPool_1, FL.aPool_2, FL.sSet_a, FL.sSetO_a, FL.sAsg_a, FL.sApp_a, FL.sExt_a, FL.ePop_a, FL.sStore_a, FL.aSub_a, FL.ownAt_a, FL.putAt_a, FL.sPar_a, FL.mNil_a, FL.mV_a, FL.mO_a, FL.setAll_c, FL.setAll_n, FL.eDm_a, FL.eCall_a, FL.eCallP_a, FL.eCallO_a, FL.eCallOP_a, FL.arrB_a, FL.iEn_a, FL.turn_a, FL.fnB_a, FL.fnL_a, FL.rep_s, FL.rep_z, FL.few_z, FL.few_1, FL.few_2, FL.few_3, FL.gAdd_i, FL.gSub_i, FL.cLt_i, FL.cLe_i, FL.cGt_i, FL.cGe_i, FL.cEq_i, FL.cNe_i, FL.cEq_str, FL.cNe_str, FL.eqv_b, FL.cEq_b, FL.truth_b, FL.truth_i, FL.truth_l, FL.truth_t, FL.gLen_l, FL.gLen_t, FL.gInt_i, FL.gTup_l, FL.gTup_t, FL.items_l, FL.items_t, FL.cIs_b, FL.gIx_l0, FL.gIx_l1, FL.gIx_l2, FL.gIx_t0, FL.gIx_t1, FL.gIx_t2, FL.cLt_n, FL.cLt_ni, FL.cLt_in, FL.cLe_n, FL.cLe_ni, FL.cLe_in, FL.cGt_n, FL.cGt_ni, FL.cGe_n, FL.cGe_ni, FL.cEq_n, FL.cEq_ni, FL.cEq_in, FL.cNe_n, FL.cNe_ni, FL.gAdd_n, FL.gAdd_ni, FL.gAdd_in, FL.gSub_ni, FL.gSub_nn, FL.gSub_in, FL.gInt_n, FL.cEq_tN, FL.cNe_tN, FL.cEq_lN, FL.sh_nilL, FL.sh_nilT, FL.gLen_tN, FL.gLen_tT, FL.gIx_tN, FL.gIx_tT, FL.items_tN, FL.items_tT, FL.ty_i, FL.ty_n, FL.ty_tN, FL.ty_tT, FL.kit_ii, FL.kit_ib, FL.kit_tt, FL.kit_lt, FL.same_tN, FL.same_l, FL.arr_n, FL.arr_c, List.getElem?_cons_zero, List.getElem?_cons_succ, List.set_cons_zero, List.set_cons_succ, List.length_cons, List.length_nil, List.map_cons, List.map_nil, List.cons_append, List.nil_append, Bool.not_true, Bool.not_false, if_true, if_false, Bool.false_eq_true, FL.R.bind, eq_self, and_self, decide_true, decide_false, Option.bind_some, Option.map_some, List.length_map, FL.wipeE, FL.backE, hm]
end M
set_option maxHeartbeats 4000000
/-! k03: drawn books, the rows. -/
namespace M
open PySem PySem.Spec PyProof.Rows L2 FL
abbrev rowB (A R : B (List D)) (G F : Fn) : B Fl := sSeq (sSet 8 (eL A)) (sSeq (sSet 9 (eCallP G (eCons (eV 0) (eCons (eV 8) (eNil))))) (sSeq (sIf (bAnd (eCmp cEq (eN 2) (toSrc (eC (.int 3)))) (eCmp cGt (toSrc (eCallP F (eCons (eV 0) (eCons (eC (.int 3)) (eNil))))) (toSrc (eC (.int 0))))) (sSet 9 (eL R)) (sNx)) (sApp 4 (eCall1 gTupOf (sCons (eN 9) (sNil))))))
theorem row_key {A R : B (List D)} {G F : Fn} {n w kp i : Nat} {rows ps : List (List Nat)} {nl p rl : List Nat} {s7 s8 s9 : Sl} {q q1 q2 : List Int} {d : D} {b c : Bool} (hz : rows.length < sizeLine)
    (hA : A (SB n w kp rows ps (.v (nD i)) s7 s8 s9 q) = .ok (nl.map nD) (SB n w kp rows ps (.v (nD i)) s7 s8 s9 q)) (hG : G [poolD, .list (nl.map nD)] (some q) = .ok (.list (p.map nD)) (some q1))
    (h3 : cEq (nD w) (.int 3) = some b) (hF : b = true → F [poolD, .int 3] (some q1) = .ok d (some q2)) (hc : b = true → cGt d (.int 0) = some c)
    (hR : R (SB n w kp rows ps (.v (nD i)) s7 (.v (.list (nl.map nD))) (.v (.list (p.map nD))) q2) = .ok (rl.map nD) (SB n w kp rows ps (.v (nD i)) s7 (.v (.list (nl.map nD))) (.v (.list (p.map nD))) q2)) :
    ∃ r q3, (r = p ∨ (b = true ∧ r = rl)) ∧ (q3 = q1 ∨ (b = true ∧ q3 = q2)) ∧ rowB A R G F (SB n w kp rows ps (.v (nD i)) s7 s8 s9 q) = .ok .nx (SB n w kp (rows ++ [r]) ps (.v (nD i)) s7 (.v (.list (nl.map nD))) (.v (.list (r.map nD))) q3) := by
  have hz' : (rows.map tN).length < sizeLine := by rw [List.length_map]; exact hz
  have hT : ∀ x : List Nat, gTupOf [.list (x.map nD)] = some (tN x) := fun _ => rfl
  have hm : ∀ x : List Nat, (rows ++ [x]).map tN = rows.map tN ++ [tN x] := fun x => by simp
  simp only [SB] at hA hR
  cases b with
  | false =>
    refine ⟨p, q1, .inl rfl, .inl rfl, ?_⟩
    simp (config := { implicitDefEqProofs := false }) only [rowB, SB, FL.lift_a, FL.eC_a, FL.eV_a, FL.eN_a, FL.eP_p, FL.rd_d, FL.rd_i, FL.rd_p, FL.toSrc_a, FL.e1_a, FL.e2_a, FL.eCmp_a, FL.eBool_a, FL.eChain_a, FL.eChain_t, FL.pure_a, FL.eTruth_a, FL.bNot_a, FL.bAnd_a, FL.bOr_a, FL.bYes_a, FL.eIf_a, FL.vAnd_a, FL.vOr_a, FL.asBool_a, FL.eNil_a, FL.eCons_a, FL.eTup_a, FL.eLst_a, FL.eL_a, FL.eIx_a, FL.eSl_a, FL.pNo_a, FL.pSo_a, FL.asInt_a, FL.sNil_a, FL.sCons_a, FL.rdA_n, FL.rdA_c, FL.eCall1_a, FL.eCallL_a, FL.eIsi_a, FL.eM1_a, FL.sSeq_a, FL.sSeqL_a, FL.sIfL_a, FL.sNx_a, FL.sBk_a, FL.sCt_a, FL.sRet_a, FL.sRetN_a, FL.sDrop_a, FL.sIf_a, FL.aN_a, FL.aNil_a, FL.aCons_a, FL.aTup_a, FL.aPool_0, FL.aPool_1, FL.aPool_2, FL.sSet_a, FL.sSetO_a, FL.sAsg_a, FL.sApp_a, FL.sExt_a, FL.ePop_a, FL.sStore_a, FL.aSub_a, FL.ownAt_a, FL.putAt_a, FL.sPar_a, FL.mNil_a, FL.mV_a, FL.mO_a, FL.setAll_c, FL.setAll_n, FL.eDm_a, FL.eCall_a, FL.eCallP_a, FL.eCallO_a, FL.eCallOP_a, FL.arrB_a, FL.iEn_a, FL.turn_a, FL.fnB_a, FL.fnL_a, FL.rep_s, FL.rep_z, FL.few_z, FL.few_1, FL.few_2, FL.few_3, FL.gAdd_i, FL.gSub_i, FL.cLt_i, FL.cLe_i, FL.cGt_i, FL.cGe_i, FL.cEq_i, FL.cNe_i, FL.cEq_str, FL.cNe_str, FL.eqv_b, FL.cEq_b, FL.truth_b, FL.truth_i, FL.truth_l, FL.truth_t, FL.gLen_l, FL.gLen_t, FL.gInt_i, FL.gTup_t, FL.items_l, FL.items_t, FL.cIs_b, FL.gIx_l0, FL.gIx_l1, FL.gIx_l2, FL.gIx_t0, FL.gIx_t1, FL.gIx_t2, FL.cLt_n, FL.cLt_ni, FL.cLt_in, FL.cLe_n, FL.cLe_ni, FL.cLe_in, FL.cGt_n, FL.cGt_ni, FL.cGe_n, FL.cGe_ni, FL.cEq_n, FL.cEq_in, FL.cNe_n, FL.cNe_ni, FL.gAdd_n, FL.gAdd_ni, FL.gAdd_in, FL.gSub_ni, FL.gSub_nn, FL.gSub_in, FL.gInt_n, FL.cEq_tN, FL.cNe_tN, FL.cEq_lN, FL.sh_nilL, FL.sh_nilT, FL.gLen_tN, FL.gLen_tT, FL.gIx_tN, FL.gIx_tT, FL.items_tN, FL.items_tT, FL.ty_i, FL.ty_n, FL.ty_tN, FL.ty_tT, FL.kit_ii, FL.kit_ib, FL.kit_tt, FL.kit_lt, FL.same_tN, FL.same_l, FL.arr_n, FL.arr_c, List.getElem?_cons_zero, List.getElem?_cons_succ, List.set_cons_zero, List.set_cons_succ, List.length_cons, List.length_nil, List.map_cons, List.map_nil, List.cons_append, List.nil_append, Bool.not_true, Bool.not_false, if_true, if_false, Bool.false_eq_true, FL.R.bind, eq_self, and_self, decide_true, decide_false, Option.bind_some, Option.map_some, FL.wipeE, FL.backE, hA, hG, h3, hT, hz', ownAt_a, putAt_a, hm]
  | true =>
    have hF := hF rfl
    have hc := hc rfl
    cases c with
    | false =>
      refine ⟨p, q2, .inl rfl, .inr ⟨rfl, rfl⟩, ?_⟩
      simp (config := { implicitDefEqProofs := false }) only [rowB, SB, FL.lift_a, FL.eC_a, FL.eV_a, FL.eN_a, FL.eP_p, FL.rd_d, FL.rd_i, FL.rd_p, FL.toSrc_a, FL.e1_a, FL.e2_a, FL.eCmp_a, FL.eBool_a, FL.eChain_a, FL.eChain_t, FL.pure_a, FL.eTruth_a, FL.bNot_a, FL.bAnd_a, FL.bOr_a, FL.bYes_a, FL.eIf_a, FL.vAnd_a, FL.vOr_a, FL.asBool_a, FL.eNil_a, FL.eCons_a, FL.eTup_a, FL.eLst_a, FL.eL_a, FL.eIx_a, FL.eSl_a, FL.pNo_a, FL.pSo_a, FL.asInt_a, FL.sNil_a, FL.sCons_a, FL.rdA_n, FL.rdA_c, FL.eCall1_a, FL.eCallL_a, FL.eIsi_a, FL.eM1_a, FL.sSeq_a, FL.sSeqL_a, FL.sIfL_a, FL.sNx_a, FL.sBk_a, FL.sCt_a, FL.sRet_a, FL.sRetN_a, FL.sDrop_a, FL.sIf_a, FL.aN_a, FL.aNil_a, FL.aCons_a, FL.aTup_a, FL.aPool_0, FL.aPool_1, FL.aPool_2, FL.sSet_a, FL.sSetO_a, FL.sAsg_a, FL.sApp_a, FL.sExt_a, FL.ePop_a, FL.sStore_a, FL.aSub_a, FL.ownAt_a, FL.putAt_a, FL.sPar_a, FL.mNil_a, FL.mV_a, FL.mO_a, FL.setAll_c, FL.setAll_n, FL.eDm_a, FL.eCall_a, FL.eCallP_a, FL.eCallO_a, FL.eCallOP_a, FL.arrB_a, FL.iEn_a, FL.turn_a, FL.fnB_a, FL.fnL_a, FL.rep_s, FL.rep_z, FL.few_z, FL.few_1, FL.few_2, FL.few_3, FL.gAdd_i, FL.gSub_i, FL.cLt_i, FL.cLe_i, FL.cGe_i, FL.cEq_i, FL.cNe_i, FL.cEq_str, FL.cNe_str, FL.eqv_b, FL.cEq_b, FL.truth_b, FL.truth_i, FL.truth_l, FL.truth_t, FL.gLen_l, FL.gLen_t, FL.gInt_i, FL.gTup_t, FL.items_l, FL.items_t, FL.cIs_b, FL.gIx_l0, FL.gIx_l1, FL.gIx_l2, FL.gIx_t0, FL.gIx_t1, FL.gIx_t2, FL.cLt_n, FL.cLt_ni, FL.cLt_in, FL.cLe_n, FL.cLe_ni, FL.cLe_in, FL.cGt_n, FL.cGe_n, FL.cGe_ni, FL.cEq_n, FL.cEq_in, FL.cNe_n, FL.cNe_ni, FL.gAdd_n, FL.gAdd_ni, FL.gAdd_in, FL.gSub_ni, FL.gSub_nn, FL.gSub_in, FL.gInt_n, FL.cEq_tN, FL.cNe_tN, FL.cEq_lN, FL.sh_nilL, FL.sh_nilT, FL.gLen_tN, FL.gLen_tT, FL.gIx_tN, FL.gIx_tT, FL.items_tN, FL.items_tT, FL.ty_i, FL.ty_n, FL.ty_tN, FL.ty_tT, FL.kit_ii, FL.kit_ib, FL.kit_tt, FL.kit_lt, FL.same_tN, FL.same_l, FL.arr_n, FL.arr_c, List.getElem?_cons_zero, List.getElem?_cons_succ, List.set_cons_zero, List.set_cons_succ, List.length_cons, List.length_nil, List.map_cons, List.map_nil, List.cons_append, List.nil_append, Bool.not_true, Bool.not_false, if_true, if_false, Bool.false_eq_true, FL.R.bind, eq_self, and_self, decide_true, decide_false, Option.bind_some, Option.map_some, FL.wipeE, FL.backE, hA, hG, h3, hF, hc, hT, hz', ownAt_a, putAt_a, hm]
    | true =>
      refine ⟨rl, q2, .inr ⟨rfl, rfl⟩, .inr ⟨rfl, rfl⟩, ?_⟩
      simp (config := { implicitDefEqProofs := false }) only [rowB, SB, FL.lift_a, FL.eC_a, FL.eV_a, FL.eN_a, FL.eP_p, FL.rd_d, FL.rd_i, FL.rd_p, FL.toSrc_a, FL.e1_a, FL.e2_a, FL.eCmp_a, FL.eBool_a, FL.eChain_a, FL.eChain_t, FL.pure_a, FL.eTruth_a, FL.bNot_a, FL.bAnd_a, FL.bOr_a, FL.bYes_a, FL.eIf_a, FL.vAnd_a, FL.vOr_a, FL.asBool_a, FL.eNil_a, FL.eCons_a, FL.eTup_a, FL.eLst_a, FL.eL_a, FL.eIx_a, FL.eSl_a, FL.pNo_a, FL.pSo_a, FL.asInt_a, FL.sNil_a, FL.sCons_a, FL.rdA_n, FL.rdA_c, FL.eCall1_a, FL.eCallL_a, FL.eIsi_a, FL.eM1_a, FL.sSeq_a, FL.sSeqL_a, FL.sIfL_a, FL.sNx_a, FL.sBk_a, FL.sCt_a, FL.sRet_a, FL.sRetN_a, FL.sDrop_a, FL.sIf_a, FL.aN_a, FL.aNil_a, FL.aCons_a, FL.aTup_a, FL.aPool_0, FL.aPool_1, FL.aPool_2, FL.sSet_a, FL.sSetO_a, FL.sAsg_a, FL.sApp_a, FL.sExt_a, FL.ePop_a, FL.sStore_a, FL.aSub_a, FL.ownAt_a, FL.putAt_a, FL.sPar_a, FL.mNil_a, FL.mV_a, FL.mO_a, FL.setAll_c, FL.setAll_n, FL.eDm_a, FL.eCall_a, FL.eCallP_a, FL.eCallO_a, FL.eCallOP_a, FL.arrB_a, FL.iEn_a, FL.turn_a, FL.fnB_a, FL.fnL_a, FL.rep_s, FL.rep_z, FL.few_z, FL.few_1, FL.few_2, FL.few_3, FL.gAdd_i, FL.gSub_i, FL.cLt_i, FL.cLe_i, FL.cGe_i, FL.cEq_i, FL.cNe_i, FL.cEq_str, FL.cNe_str, FL.eqv_b, FL.cEq_b, FL.truth_b, FL.truth_i, FL.truth_l, FL.truth_t, FL.gLen_l, FL.gLen_t, FL.gInt_i, FL.gTup_t, FL.items_l, FL.items_t, FL.cIs_b, FL.gIx_l0, FL.gIx_l1, FL.gIx_l2, FL.gIx_t0, FL.gIx_t1, FL.gIx_t2, FL.cLt_n, FL.cLt_ni, FL.cLt_in, FL.cLe_n, FL.cLe_ni, FL.cLe_in, FL.cGt_n, FL.cGe_n, FL.cGe_ni, FL.cEq_n, FL.cEq_in, FL.cNe_n, FL.cNe_ni, FL.gAdd_n, FL.gAdd_ni, FL.gAdd_in, FL.gSub_ni, FL.gSub_nn, FL.gSub_in, FL.gInt_n, FL.cEq_tN, FL.cNe_tN, FL.cEq_lN, FL.sh_nilL, FL.sh_nilT, FL.gLen_tN, FL.gLen_tT, FL.gIx_tN, FL.gIx_tT, FL.items_tN, FL.items_tT, FL.ty_i, FL.ty_n, FL.ty_tN, FL.ty_tT, FL.kit_ii, FL.kit_ib, FL.kit_tt, FL.kit_lt, FL.same_tN, FL.same_l, FL.arr_n, FL.arr_c, List.getElem?_cons_zero, List.getElem?_cons_succ, List.set_cons_zero, List.set_cons_succ, List.length_cons, List.length_nil, List.map_cons, List.map_nil, List.cons_append, List.nil_append, Bool.not_true, Bool.not_false, if_true, if_false, Bool.false_eq_true, FL.R.bind, eq_self, and_self, decide_true, decide_false, Option.bind_some, Option.map_some, FL.wipeE, FL.backE, hA, hG, h3, hF, hc, hR, hT, hz', ownAt_a, putAt_a, hm]
theorem nr_len {n : Nat} {ps : List (List Nat)} {i : Nat} : (nr n ps i).length ≤ n := by
  unfold nr
  refine Nat.le_trans (List.length_filter_le _ _) ?_
  rw [List.length_range]
  exact Nat.le_refl _
theorem row_ok {n w kp i : Nat} {rows ps : List (List Nat)} {s7 s8 s9 : Sl} {q : List Int} (h1 : 1 ≤ n) (hn : n ≤ 7) (hi : i < n) (hv : VN s7) (hq : PoolOk q) (hp : PairsOk n ps) (hf : w = 3 → ∀ a b, a < b → b < n → [a, b] ∈ ps) (hz : rows.length ≤ 1000) :
    ∃ (r : List Nat) (q3 : List Int) (s8' s9' : Sl), List.Perm r (nr n ps i) ∧ PoolOk q3 ∧ rowB nC rotC f__law_mixed f__law_draw (SB n w kp rows ps (.v (nD i)) s7 s8 s9 q) = .ok .nx (SB n w kp (rows ++ [r]) ps (.v (nD i)) s7 s8' s9' q3) := by
  have hA := nC_ok (w := w) (kp := kp) (i := i) (rows := rows) (ps := ps) (s8 := s8) (s9 := s9) (q := q) hn hv
  obtain ⟨p, q1, hpp, hq1, hG⟩ := mixed_ok (src := .list ((nr n ps i).map nD)) (l := nr n ps i) rfl (by have := nr_len (n := n) (ps := ps) (i := i); omega) hq
  obtain ⟨t, q2, _, hq2, hd⟩ := draw_nat (m := 3) hq1 (by omega) (by omega)
  have hR := rotC_ok (w := w) (kp := kp) (i := i) (rows := rows) (ps := ps) (s7 := s7) (s8 := .v (.list ((nr n ps i).map nD))) (s9 := .v (.list (p.map nD))) (q := q2) h1 hn
  obtain ⟨r, q3, hr, hq3, hb⟩ := row_key (b := decide ((w : Int) = 3)) (c := decide ((0 : Int) < t)) (by rw [sizeLine_eq]; omega) hA hG cEq_ni (fun _ => hd) (fun _ => cGt_ni) hR
  refine ⟨r, q3, _, _, ?_, ?_, hb⟩
  · rcases hr with rfl | ⟨e, rfl⟩
    · exact hpp
    · exact rot_perm hi hn hp (hf (by have := of_decide_eq_true e; omega))
  · rcases hq3 with rfl | ⟨_, rfl⟩
    · exact hq1
    · exact hq2
theorem book_bk {n : Nat} {rows ps : List (List Nat)} (h1 : 1 ≤ n) (hn : n ≤ 7) (hl : rows.length = n) (hp : PairsOk n ps) (h : ∀ j, j < n → (rows.getD j []).Perm (nr n ps j)) : BkOk n rows := by
  refine ⟨hl, h1, hn, fun i hi => (h i hi).nodup_iff.mpr nr_nd, fun i hi x hx => ?_, fun i hi x hx => ?_⟩
  · have hx := (h i hi).mem_iff.mp hx
    exact ⟨(mem_nr.mp hx).1, nr_ne hp hx⟩
  · have hx := mem_nr.mp ((h i hi).mem_iff.mp hx)
    refine (h x hx.1).mem_iff.mpr (mem_nr.mpr ⟨hi, ?_⟩)
    rw [Nat.min_comm, Nat.max_comm]
    exact hx.2
theorem book_ok {n : Nat} {q : List Int} (h1 : 1 ≤ n) (hn : n ≤ 7) (hq : PoolOk q) : ∃ (ls : List (List Nat)) (q' : List Int), BkOk n ls ∧ PoolOk q' ∧ f__law_book [poolD, nD n] (some q) = .ok (tTT ls) (some q') := by
  obtain ⟨w, q1, hw, hq1, hd1⟩ := draw_nat (m := 5) hq (by omega) (by omega)
  obtain ⟨kp, q2, _, hq2, hd2⟩ := draw_nat (m := 4) hq1 (by omega) (by omega)
  obtain ⟨ps, s6, s7, q3, hq3, hp, hv, hlp, hf, hL1⟩ := pairs_ok (kp := kp + 1) hn hw hq2
  have hr : iR1 (eV 1) (SB n w (kp + 1) [] ps s6 s7 .no .no q3) = .ok ((List.range n).map nD) (SB n w (kp + 1) [] ps s6 s7 .no .no q3) := iR1_n rfl (by omega)
  obtain ⟨s', hL2, h2⟩ := sFor_inv (a := aN 6) (g := rowB nC rotC f__law_mixed f__law_draw) (fun i s => ∃ rows s6 s8 s9 q, s = SB n w (kp + 1) rows ps s6 s7 s8 s9 q ∧ PoolOk q ∧ rows.length = i ∧ ∀ j, j < i → (rows.getD j []).Perm (nr n ps j)) hr
    ⟨[], _, _, _, q3, rfl, hq3, rfl, fun j hj => by omega⟩ (fun i d s hd hs => by
      obtain ⟨rows, s6, s8, s9, q, rfl, hq, hrl, hrp⟩ := hs
      obtain ⟨hin, rfl⟩ := get_nD hd
      have hi : i < n := by simpa using hin
      have e0 : (List.range n)[i] = i := List.getElem_range _
      rw [e0]
      obtain ⟨r, q4, s8', s9', hrr, hq4, hb⟩ := row_ok (kp := kp + 1) (rows := rows) (s8 := s8) (s9 := s9) h1 hn hi hv hq hp hf (by omega)
      refine ⟨_, _, rfl, .inl hb, rows ++ [r], _, s8', s9', q4, rfl, hq4, by simp [hrl], fun j hj => ?_⟩
      by_cases e : j = i
      · subst e
        rw [List.getD_eq_getElem?_getD, List.getElem?_append_right (by omega), hrl, Nat.sub_self]
        exact hrr
      · rw [List.getD_eq_getElem?_getD, List.getElem?_append_left (by omega), ← List.getD_eq_getElem?_getD]
        exact hrp j (by omega))
  obtain ⟨rows, s6', s8, s9, q4, rfl, hq4, hrl, hrp⟩ := h2
  rw [List.length_map, List.length_range] at hrl hrp
  refine ⟨rows, q4, book_bk h1 hn hrl hp hrp, hq4, ?_⟩
  have ha : gAdd (.int 1) (nD kp) = some (nD (kp + 1)) := by simp [nD, gAdd]; omega
  have hT : gTupOf [.list (rows.map tN)] = some (tTT rows) := rfl
  have key : ∀ (F : Fn) (L1 L2 : B Fl), F [poolD, .int 5] (some q) = .ok (nD w) (some q1) → F [poolD, .int 4] (some q1) = .ok (nD kp) (some q2) → L1 ⟨[.v poolD, .v (nD n), .v (nD w), .v (nD (kp + 1)), .l [], .l [], .no, .no, .no, .no, .no], some q2⟩ = .ok .nx (SB n w (kp + 1) [] ps s6 s7 .no .no q3) → L2 (SB n w (kp + 1) [] ps s6 s7 .no .no q3) = .ok .nx (SB n w (kp + 1) rows ps s6' s7 s8 s9 q4) →
      fnB 2 11 (sSeq (sPar [2, 3, 4] (mV (eCallP F (eCons (eV 0) (eCons (eC (.int 5)) (eNil)))) (mV (e2 gAdd (eC (.int 1)) (eCallP F (eCons (eV 0) (eCons (eC (.int 4)) (eNil))))) (mO (eLst (eNil)) (mNil))))) (sSeq (sSetO 5 (eLst (eNil))) (sSeq L1 (sSeq L2 (sRet (eCall1 gTupOf (sCons (eN 4) (sNil)))))))) [poolD, nD n] (some q) = .ok (tTT rows) (some q4) := by
    intro F L1 L2 g1 g2 g3 g4
    simp only [SB, List.map_nil] at g3 g4
    simp (config := { implicitDefEqProofs := false }) only [FL.lift_a, FL.eC_a, FL.eV_a, FL.eN_a, FL.eP_p, FL.rd_d, FL.rd_i, FL.rd_p, FL.toSrc_a, FL.e1_a, FL.e2_a, FL.eCmp_a, FL.eBool_a, FL.eChain_a, FL.eChain_t, FL.pure_a, FL.eTruth_a, FL.bNot_a, FL.bAnd_a, FL.bOr_a, FL.bYes_a, FL.eIf_a, FL.vAnd_a, FL.vOr_a, FL.asBool_a, FL.eNil_a, FL.eCons_a, FL.eTup_a, FL.eLst_a, FL.eL_a, FL.eIx_a, FL.eSl_a, FL.pNo_a, FL.pSo_a, FL.asInt_a, FL.sNil_a, FL.sCons_a, FL.rdA_n, FL.rdA_c, FL.eCall1_a, FL.eCallL_a, FL.eIsi_a, FL.eM1_a, FL.sSeq_a, FL.sSeqL_a, FL.sIfL_a, FL.sNx_a, FL.sBk_a, FL.sCt_a, FL.sRet_a, FL.sRetN_a, FL.sDrop_a, FL.sIf_a, FL.aN_a, FL.aNil_a, FL.aCons_a, FL.aTup_a, FL.aPool_0, FL.aPool_1, FL.aPool_2, FL.sSet_a, FL.sSetO_a, FL.sAsg_a, FL.sApp_a, FL.sExt_a, FL.ePop_a, FL.sStore_a, FL.aSub_a, FL.ownAt_a, FL.putAt_a, FL.sPar_a, FL.mNil_a, FL.mV_a, FL.mO_a, FL.setAll_c, FL.setAll_n, FL.eDm_a, FL.eCall_a, FL.eCallP_a, FL.eCallO_a, FL.eCallOP_a, FL.arrB_a, FL.iEn_a, FL.turn_a, FL.fnB_a, FL.fnL_a, FL.rep_s, FL.rep_z, FL.few_z, FL.few_1, FL.few_2, FL.few_3, FL.gAdd_i, FL.gSub_i, FL.cLt_i, FL.cLe_i, FL.cGt_i, FL.cGe_i, FL.cEq_i, FL.cNe_i, FL.cEq_str, FL.cNe_str, FL.eqv_b, FL.cEq_b, FL.truth_b, FL.truth_i, FL.truth_l, FL.truth_t, FL.gLen_l, FL.gLen_t, FL.gInt_i, FL.gTup_t, FL.items_l, FL.items_t, FL.cIs_b, FL.gIx_l0, FL.gIx_l1, FL.gIx_l2, FL.gIx_t0, FL.gIx_t1, FL.gIx_t2, FL.cLt_n, FL.cLt_ni, FL.cLt_in, FL.cLe_n, FL.cLe_ni, FL.cLe_in, FL.cGt_n, FL.cGt_ni, FL.cGe_n, FL.cGe_ni, FL.cEq_n, FL.cEq_ni, FL.cEq_in, FL.cNe_n, FL.cNe_ni, FL.gAdd_n, FL.gAdd_ni, FL.gAdd_in, FL.gSub_ni, FL.gSub_nn, FL.gSub_in, FL.gInt_n, FL.cEq_tN, FL.cNe_tN, FL.cEq_lN, FL.sh_nilL, FL.sh_nilT, FL.gLen_tN, FL.gLen_tT, FL.gIx_tN, FL.gIx_tT, FL.items_tN, FL.items_tT, FL.ty_i, FL.ty_n, FL.ty_tN, FL.ty_tT, FL.kit_ii, FL.kit_ib, FL.kit_tt, FL.kit_lt, FL.same_tN, FL.same_l, FL.arr_n, FL.arr_c, List.getElem?_cons_zero, List.getElem?_cons_succ, List.set_cons_zero, List.set_cons_succ, List.length_cons, List.length_nil, List.map_cons, List.map_nil, List.cons_append, List.nil_append, Bool.not_true, Bool.not_false, if_true, if_false, Bool.false_eq_true, FL.R.bind, eq_self, and_self, decide_true, decide_false, Option.bind_some, Option.map_some, List.length_map, FL.wipeE, FL.backE, g1, g2, ha, g3, g4, hT]
  exact key _ _ _ hd1 hd2 hL1 hL2
end M
set_option maxHeartbeats 4000000
/-! k03: things near a book. -/
namespace M
open PySem PySem.Spec PyProof.Rows L2 FL
theorem itm_n (x : Nat) : Itm (nD x) := ⟨rfl, rfl, by simp [nD, PyData.depth]⟩
theorem itm_tN (l : List Nat) : Itm (tN l) := ⟨rfl, lay_tN l, by rw [dep_tN]; omega⟩
theorem rowC_tup {es : List D} (h1 : es.length ≤ 200) (h : ∀ e ∈ es, Itm e) : RowC (.tuple es) := ⟨rfl, fun es' e => by injection e with e; subst e; exact ⟨h1, h⟩⟩
theorem rowC_tN {l : List Nat} (h : l.length ≤ 200) : RowC (tN l) := rowC_tup (by rw [List.length_map]; exact h) fun e he => by obtain ⟨x, _, rfl⟩ := List.mem_map.mp he; exact itm_n x
theorem rowC_o {d : D} (h : (tyD d).isSome = true) (hn : isT d = false) : RowC d := ⟨h, fun es e => by subst e; cases hn⟩
theorem val_tup {ds : List D} (h1 : ds.length ≤ 200) (h : ∀ d ∈ ds, RowC d) : Val (.tuple ds) := ⟨rfl, fun es' e => by injection e with e; subst e; exact ⟨h1, h⟩⟩
theorem val_o {d : D} (h : (tyD d).isSome = true) (hn : isT d = false) : Val d := ⟨h, fun es e => by subst e; cases hn⟩
theorem BkOk.row {n : Nat} {ls : List (List Nat)} (h : BkOk n ls) : Rows ls := by
  have e := h.len
  subst e
  exact ⟨h.lo, h.hi, h.nd, h.inn⟩
theorem BkOk.rlen {n : Nat} {ls : List (List Nat)} (h : BkOk n ls) : ∀ l ∈ ls, l.length ≤ 7 := by
  intro l hl
  rw [List.mem_iff_getElem?] at hl
  obtain ⟨i, hi⟩ := hl
  have hil : i < ls.length := (List.getElem?_eq_some_iff.mp hi).1
  have e : ls.getD i [] = l := by rw [List.getD_eq_getElem?_getD, hi]; rfl
  rw [← e]
  exact h.row.len hil
theorem BkOk.rowCs {n : Nat} {ls : List (List Nat)} (h : BkOk n ls) : ∀ d ∈ ls.map tN, RowC d := by
  intro d hd
  obtain ⟨l, hl, rfl⟩ := List.mem_map.mp hd
  exact rowC_tN (by have := h.rlen l hl; omega)
theorem sl_hiD (ds : List D) (k : Nat) : gSl none (some (k : Nat)) (.tuple ds) = some (.tuple (ds.take k)) := by
  show some (PyData.tuple (FL.cut ds none (some (k : Nat)))) = _
  rw [cut_hiN]
theorem sl_loD {ds : List D} {k : Nat} (h : k ≤ ds.length) : gSl (some (k : Nat)) none (.tuple ds) = some (.tuple (ds.drop k)) := by
  show some (PyData.tuple (FL.cut ds (some (k : Nat)) none)) = _
  rw [cut_loN h]
def putD (ds : List D) (k : Nat) (d : D) : List D := ds.take k ++ [d] ++ ds.drop (k + 1)
theorem put_ok {ds : List D} {k : Nat} {d : D} (hk : k < ds.length) (hl : ds.length ≤ 1000) : f__law_put [.tuple ds, nD k, d] none = .ok (.tuple (putD ds k d)) none := by
  have h1 := sl_hiD ds k
  have h2 := sl_loD (ds := ds) (k := k + 1) (by omega)
  have a1 : gAdd (.tuple (ds.take k)) (.tuple [d]) = some (.tuple (ds.take k ++ [d])) := add_tt (by rw [List.length_take]; simp; omega)
  have a2 : gAdd (.tuple (ds.take k ++ [d])) (.tuple (ds.drop (k + 1))) = some (.tuple (putD ds k d)) := add_tt (by rw [List.length_append, List.length_take, List.length_drop]; simp; omega)
  have key : ∀ L1 L2 L3 L4 : List D, gSl none (some (k : Nat)) (.tuple ds) = some (.tuple L1) → gSl (some ((k + 1 : Nat) : Int)) none (.tuple ds) = some (.tuple L2) → gAdd (.tuple L1) (.tuple [d]) = some (.tuple L3) → gAdd (.tuple L3) (.tuple L2) = some (.tuple L4) → fnB 3 3 (sRet (e2 gAdd (e2 gAdd (eSl (eN 0) (pNo) (pSo (eV 1))) (eTup (eCons (eV 2) (eNil)))) (eSl (eN 0) (pSo (e2 gAdd (eV 1) (eC (.int 1)))) (pNo)))) [.tuple ds, nD k, d] none = .ok (.tuple L4) none := by
    intro L1 L2 L3 L4 h1 h2 a1 a2
    simp (config := { implicitDefEqProofs := false }) only [FL.lift_a, FL.eC_a, FL.eV_a, FL.eN_a, FL.eP_p, FL.rd_d, FL.rd_i, FL.rd_p, FL.toSrc_a, FL.e1_a, FL.e2_a, FL.eCmp_a, FL.eBool_a, FL.eChain_a, FL.eChain_t, FL.pure_a, FL.eTruth_a, FL.bNot_a, FL.bAnd_a, FL.bOr_a, FL.bYes_a, FL.eIf_a, FL.vAnd_a, FL.vOr_a, FL.asBool_a, FL.eNil_a, FL.eCons_a, FL.eTup_a, FL.eLst_a, FL.eL_a, FL.eIx_a, FL.eSl_a, FL.pNo_a, FL.pSo_a, FL.sNil_a, FL.sCons_a, FL.rdA_n, FL.rdA_c, FL.eCall1_a, FL.eCallL_a, FL.eIsi_a, FL.eM1_a, FL.sSeq_a, FL.sSeqL_a, FL.sIfL_a, FL.sNx_a, FL.sBk_a, FL.sCt_a, FL.sRet_a, FL.sRetN_a, FL.sDrop_a, FL.sIf_a, FL.aN_a, FL.aNil_a, FL.aCons_a, FL.aTup_a, FL.aPool_0, FL.aPool_1, FL.aPool_2, FL.sSet_a, FL.sSetO_a, FL.sAsg_a, FL.sApp_a, FL.sExt_a, FL.ePop_a, FL.sStore_a, FL.aSub_a, FL.ownAt_a, FL.putAt_a, FL.sPar_a, FL.mNil_a, FL.mV_a, FL.mO_a, FL.setAll_c, FL.setAll_n, FL.eDm_a, FL.eCall_a, FL.eCallP_a, FL.eCallO_a, FL.eCallOP_a, FL.arrB_a, FL.iEn_a, FL.turn_a, FL.fnB_a, FL.fnL_a, FL.rep_s, FL.rep_z, FL.few_z, FL.few_1, FL.few_2, FL.few_3, FL.gAdd_i, FL.gSub_i, FL.cLt_i, FL.cLe_i, FL.cGt_i, FL.cGe_i, FL.cEq_i, FL.cNe_i, FL.cEq_str, FL.cNe_str, FL.eqv_b, FL.cEq_b, FL.truth_b, FL.truth_i, FL.truth_l, FL.truth_t, FL.gLen_l, FL.gLen_t, FL.gInt_i, FL.gTup_l, FL.gTup_t, FL.items_l, FL.items_t, FL.cIs_b, FL.gIx_l0, FL.gIx_l1, FL.gIx_l2, FL.gIx_t0, FL.gIx_t1, FL.gIx_t2, FL.cLt_n, FL.cLt_ni, FL.cLt_in, FL.cLe_n, FL.cLe_ni, FL.cLe_in, FL.cGt_n, FL.cGt_ni, FL.cGe_n, FL.cGe_ni, FL.cEq_n, FL.cEq_ni, FL.cEq_in, FL.cNe_n, FL.cNe_ni, FL.gAdd_n, FL.gAdd_in, FL.gSub_ni, FL.gSub_nn, FL.gSub_in, FL.gInt_n, FL.cEq_tN, FL.cNe_tN, FL.cEq_lN, FL.sh_nilL, FL.sh_nilT, FL.gLen_tN, FL.gLen_tT, FL.gIx_tN, FL.gIx_tT, FL.items_tN, FL.items_tT, FL.ty_i, FL.ty_n, FL.ty_tN, FL.ty_tT, FL.kit_ii, FL.kit_ib, FL.kit_tt, FL.kit_lt, FL.same_tN, FL.same_l, FL.arr_n, FL.arr_c, List.getElem?_cons_zero, List.getElem?_cons_succ, List.set_cons_zero, List.set_cons_succ, List.length_cons, List.length_nil, List.map_cons, List.map_nil, List.cons_append, List.nil_append, Bool.not_true, Bool.not_false, if_true, if_false, Bool.false_eq_true, FL.R.bind, eq_self, and_self, decide_true, decide_false, Option.bind_some, Option.map_some, List.length_map, FL.wipeE, FL.backE, asInt_n, gAdd_n1, h1, h2, a1, a2]
  exact key _ _ _ _ h1 h2 a1 a2
theorem putD_val {ds : List D} {k : Nat} {d : D} (hl : ds.length ≤ 100) (h : ∀ d ∈ ds, RowC d) (hd : RowC d) : Val (.tuple (putD ds k d)) := by
  refine val_tup ?_ fun x hx => ?_
  · unfold putD
    rw [List.length_append, List.length_append, List.length_take, List.length_drop]
    simp
    omega
  · unfold putD at hx
    rcases List.mem_append.mp hx with hx | hx
    · rcases List.mem_append.mp hx with hx | hx
      · exact h x (List.mem_of_mem_take hx)
      · rw [List.mem_singleton.mp hx]; exact hd
    · exact h x (List.mem_of_mem_drop hx)
abbrev TB (n k : Nat) (ls : List (List Nat)) (r : List Nat) (s5 s6 : Sl) (q : List Int) : S := ⟨[.v poolD, .v (tTT ls), .v (nD k), .v (nD n), .v (tN r), s5, s6, .no], some q⟩
theorem rep_mem {α : Type} {xs : List α} : ∀ (m : Nat) {x : α}, x ∈ (List.replicate m xs).flatten → x ∈ xs
  | 0, x, h => by simp at h
  | m + 1, x, h => by
    rw [List.replicate_succ, List.flatten_cons] at h
    rcases List.mem_append.mp h with h | h
    · exact h
    · exact rep_mem m h
theorem rep_len {α : Type} (xs : List α) : ∀ m : Nat, (List.replicate m xs).flatten.length = m * xs.length
  | 0 => by simp
  | m + 1 => by
    rw [List.replicate_succ, List.flatten_cons, List.length_append, rep_len xs m, Nat.succ_mul]
    omega
abbrev X5 : B D := eL (eLst (eCons (eV 1) (eCons (eL (eCallL gLstOf (sCons (eN 1) (sNil)))) (eCons (eTup (eNil)) (eCons (eC .none) (eCons (eC (.int 0)) (eCons (eC (.dict [])) (eCons (eC (.str "0 1")) (eCons (eTup (eCons (eV 1) (eNil))) (eCons (eV 4) (eCons (e2 gAdd (eV 1) (eTup (eCons (eTup (eNil)) (eNil)))) (eCons (eSl (eN 1) (pSo (eC (.int 1))) (pNo)) (eCons (eSl (eN 1) (pNo) (pSo (FL.e1 gNeg (eC (.int 1))))) (eCons (e2 gMulT (eTup (eCons (eTup (eNil)) (eNil))) (eC (.int 8))) (eCons (eSl (toSrc (e2 gMulT (eV 1) (eC (.int 8)))) (pNo) (pSo (eC (.int 8)))) (eCons (eRev (eN 1)) (eNil)))))))))))))))))
theorem X5_ok {n k : Nat} {ls : List (List Nat)} {r : List Nat} {q : List Int} {s5 s6 : Sl} (h : BkOk n ls) (hr : r.length ≤ 7) : ∃ vs : List D, X5 (TB n k ls r s5 s6 q) = .ok (.list vs) (TB n k ls r s5 s6 q) ∧ vs.length ≤ 20 ∧ ∀ v ∈ vs, Val v := by
  have hl := h.len
  have h7 := h.hi
  have h0 := h.lo
  have hrow := h.rowCs
  have hz : (ls.map tN).length ≤ 7 := by rw [List.length_map]; omega
  have a1 : gAdd (tTT ls) (.tuple [.tuple []]) = some (.tuple (ls.map tN ++ [.tuple []])) := add_tt (by simp; omega)
  have g1 : gSl (some 1) none (tTT ls) = some (.tuple (FL.cut (ls.map tN) (some 1) none)) := rfl
  have g2 : gSl none (some (-1)) (tTT ls) = some (.tuple (FL.cut (ls.map tN) none (some (-1)))) := rfl
  have hneg : gNeg (.int 1) = some (.int (-1)) := rfl
  have m1 : gMulT (.tuple [.tuple []]) (.int 8) = some (.tuple (List.replicate 8 [.tuple []]).flatten) := rfl
  have m2 : gMulT (tTT ls) (.int 8) = some (.tuple (List.replicate 8 (ls.map tN)).flatten) := by
    show (if ls.map tN ≠ [] ∧ (2 : Int) ≤ 8 ∧ (8 : Int) ≤ 1000 ∧ (ls.map tN).length ≤ 1000 then some (PyData.tuple (List.replicate (8 : Int).toNat (ls.map tN)).flatten) else none) = _
    rw [if_pos ⟨by
      intro e
      have := congrArg List.length e
      rw [List.length_map] at this
      simp at this
      subst this
      simp at hl
      omega, by omega, by omega, by omega⟩]
    rfl
  have g3 : gSl none (some 8) (.tuple (List.replicate 8 (ls.map tN)).flatten) = some (.tuple (FL.cut (List.replicate 8 (ls.map tN)).flatten none (some 8))) := rfl
  have v1 : gRev (tTT ls) = some (.tuple (ls.map tN).reverse) := rfl
  have l1 : gLstOf [tTT ls] = some (ls.map tN) := rfl
  have f15 : ∀ a1 a2 a3 a4 a5 a6 a7 a8 a9 a10 a11 a12 a13 a14 a15 : D, few [a1, a2, a3, a4, a5, a6, a7, a8, a9, a10, a11, a12, a13, a14, a15] = some [a1, a2, a3, a4, a5, a6, a7, a8, a9, a10, a11, a12, a13, a14, a15] := fun a1 a2 a3 a4 a5 a6 a7 a8 a9 a10 a11 a12 a13 a14 a15 => few_n (by simp)
  refine ⟨[tTT ls, .list (ls.map tN), .tuple [], .none, .int 0, .dict [], .str "0 1", .tuple [tTT ls], tN r, .tuple (ls.map tN ++ [.tuple []]), .tuple (FL.cut (ls.map tN) (some 1) none), .tuple (FL.cut (ls.map tN) none (some (-1))), .tuple (List.replicate 8 [.tuple []]).flatten, .tuple (FL.cut (List.replicate 8 (ls.map tN)).flatten none (some 8)), .tuple (ls.map tN).reverse], ?_, by simp, ?_⟩
  · revert a1 g1 g2 m1 m2 g3 v1
    generalize ls.map tN ++ [.tuple []] = b1
    generalize FL.cut (ls.map tN) (some 1) none = b2
    generalize FL.cut (ls.map tN) none (some (-1)) = b3
    generalize (List.replicate 8 [PyData.tuple []]).flatten = b4
    generalize (List.replicate 8 (ls.map tN)).flatten = b5
    generalize FL.cut b5 none (some 8) = b6
    generalize (ls.map tN).reverse = b7
    intro a1 g1 g2 m1 m2 g3 v1
    simp (config := { implicitDefEqProofs := false }) only [X5, TB, FL.lift_a, FL.eC_a, FL.eV_a, FL.eN_a, FL.eP_p, FL.rd_d, FL.rd_i, FL.rd_p, FL.toSrc_a, FL.e1_a, FL.e2_a, FL.eCmp_a, FL.eBool_a, FL.eChain_a, FL.eChain_t, FL.pure_a, FL.eTruth_a, FL.bNot_a, FL.bAnd_a, FL.bOr_a, FL.bYes_a, FL.eIf_a, FL.vAnd_a, FL.vOr_a, FL.asBool_a, FL.eNil_a, FL.eCons_a, FL.eTup_a, FL.eLst_a, FL.eL_a, FL.eIx_a, FL.eSl_a, FL.pNo_a, FL.pSo_a, FL.asInt_a, FL.sNil_a, FL.sCons_a, FL.rdA_n, FL.rdA_c, FL.eCall1_a, FL.eCallL_a, FL.eIsi_a, FL.eM1_a, FL.sSeq_a, FL.sSeqL_a, FL.sIfL_a, FL.sNx_a, FL.sBk_a, FL.sCt_a, FL.sRet_a, FL.sRetN_a, FL.sDrop_a, FL.sIf_a, FL.aN_a, FL.aNil_a, FL.aCons_a, FL.aTup_a, FL.aPool_0, FL.aPool_1, FL.aPool_2, FL.sSet_a, FL.sSetO_a, FL.sAsg_a, FL.sApp_a, FL.sExt_a, FL.ePop_a, FL.sStore_a, FL.aSub_a, FL.ownAt_a, FL.putAt_a, FL.sPar_a, FL.mNil_a, FL.mV_a, FL.mO_a, FL.setAll_c, FL.setAll_n, FL.eDm_a, FL.eCall_a, FL.eCallP_a, FL.eCallO_a, FL.eCallOP_a, FL.arrB_a, FL.iEn_a, FL.turn_a, FL.fnB_a, FL.fnL_a, FL.rep_s, FL.rep_z, FL.few_z, FL.few_1, FL.few_2, FL.few_3, FL.gAdd_i, FL.gSub_i, FL.cLt_i, FL.cLe_i, FL.cGt_i, FL.cGe_i, FL.cEq_i, FL.cNe_i, FL.cEq_str, FL.cNe_str, FL.eqv_b, FL.cEq_b, FL.truth_b, FL.truth_i, FL.truth_l, FL.truth_t, FL.gLen_l, FL.gLen_t, FL.gInt_i, FL.gTup_l, FL.gTup_t, FL.items_l, FL.items_t, FL.cIs_b, FL.gIx_l0, FL.gIx_l1, FL.gIx_l2, FL.gIx_t0, FL.gIx_t1, FL.gIx_t2, FL.cLt_n, FL.cLt_ni, FL.cLt_in, FL.cLe_n, FL.cLe_ni, FL.cLe_in, FL.cGt_n, FL.cGt_ni, FL.cGe_n, FL.cGe_ni, FL.cEq_n, FL.cEq_ni, FL.cEq_in, FL.cNe_n, FL.cNe_ni, FL.gAdd_n, FL.gAdd_ni, FL.gAdd_in, FL.gSub_ni, FL.gSub_nn, FL.gSub_in, FL.gInt_n, FL.cEq_tN, FL.cNe_tN, FL.cEq_lN, FL.sh_nilL, FL.sh_nilT, FL.gLen_tN, FL.gLen_tT, FL.gIx_tN, FL.gIx_tT, FL.items_tN, FL.items_tT, FL.ty_i, FL.ty_n, FL.ty_tN, FL.ty_tT, FL.kit_ii, FL.kit_ib, FL.kit_tt, FL.kit_lt, FL.same_tN, FL.same_l, FL.arr_n, FL.arr_c, List.getElem?_cons_zero, List.getElem?_cons_succ, List.set_cons_zero, List.set_cons_succ, List.length_cons, List.length_nil, List.map_cons, List.map_nil, List.cons_append, List.nil_append, Bool.not_true, Bool.not_false, if_true, if_false, Bool.false_eq_true, FL.R.bind, eq_self, and_self, decide_true, decide_false, Option.bind_some, Option.map_some, List.length_map, FL.wipeE, FL.backE, eRev_a, a1, g1, g2, hneg, m1, m2, g3, v1, l1, e1_a, f15]
  · have hrT : RowC (tTT ls) := rowC_tup (by omega) fun e he => by obtain ⟨x, _, rfl⟩ := List.mem_map.mp he; exact itm_tN x
    have hE : RowC (.tuple []) := rowC_tup (by simp) fun e he => by simp at he
    have hm : ∀ x ∈ (List.replicate 8 (ls.map tN)).flatten, RowC x := fun x hx => hrow x (rep_mem 8 hx)
    intro v hv
    simp only [List.mem_cons, List.not_mem_nil, or_false] at hv
    rcases hv with rfl | rfl | rfl | rfl | rfl | rfl | rfl | rfl | rfl | rfl | rfl | rfl | rfl | rfl | rfl
    · exact val_tup (by omega) hrow
    · exact val_o rfl rfl
    · exact val_tup (by simp) fun e he => by simp at he
    · exact val_o rfl rfl
    · exact val_o rfl rfl
    · exact val_o rfl rfl
    · exact val_o rfl rfl
    · exact val_tup (by simp) fun e he => by rw [List.mem_singleton.mp he]; exact hrT
    · exact val_tup (by rw [List.length_map]; omega) fun e he => by obtain ⟨x, _, rfl⟩ := List.mem_map.mp he; exact rowC_o rfl rfl
    · refine val_tup (by rw [List.length_append]; simp; omega) fun e he => ?_
      rcases List.mem_append.mp he with he | he
      · exact hrow e he
      · rw [List.mem_singleton.mp he]; exact hE
    · exact val_tup (by have := cut_len (ls.map tN) (some 1) none; omega) fun e he => hrow e (cut_mem he)
    · exact val_tup (by have := cut_len (ls.map tN) none (some (-1)); omega) fun e he => hrow e (cut_mem he)
    · refine val_tup (by rw [rep_len]; simp) fun e he => ?_
      have := rep_mem 8 he
      rw [List.mem_singleton.mp this]
      exact hE
    · exact val_tup (by have := cut_len (List.replicate 8 (ls.map tN)).flatten none (some 8); rw [rep_len] at this; omega) fun e he => hm e (cut_mem he)
    · exact val_tup (by rw [List.length_reverse]; omega) fun e he => hrow e (List.mem_reverse.mp he)
end M
set_option maxHeartbeats 4000000
/-! k03: things near a book, all of them. -/
namespace M
open PySem PySem.Spec PyProof.Rows L2 FL
theorem itm_o {e : D} (h1 : (tyD e).isSome = true) (h2 : e.canLay0 = true) (h3 : e.depth = 0) : Itm e := ⟨h1, h2, by omega⟩
theorem row_app {r : List Nat} {x : D} (hr : r.length ≤ 7) (hx : Itm x) : RowC (.tuple (r.map nD ++ [x])) := by
  refine rowC_tup (by rw [List.length_append, List.length_map]; simp; omega) fun e he => ?_
  rcases List.mem_append.mp he with he | he
  · obtain ⟨y, _, rfl⟩ := List.mem_map.mp he; exact itm_n y
  · rw [List.mem_singleton.mp he]; exact hx
theorem add_row {r : List Nat} (hr : r.length ≤ 7) (x : D) : gAdd (tN r) (.tuple [x]) = some (.tuple (r.map nD ++ [x])) := add_tt (by rw [List.length_map]; simp; omega)
theorem itms {r : List Nat} : ∀ e ∈ r.map nD, Itm e := fun e he => by obtain ⟨y, _, rfl⟩ := List.mem_map.mp he; exact itm_n y
abbrev X6 : B D := eL (eLst (eCons (eC .none) (eCons (eL (eCallL gLstOf (sCons (eN 4) (sNil)))) (eCons (e2 gAdd (eV 4) (eTup (eCons (eV 2) (eNil)))) (eCons (e2 gAdd (eV 4) (eTup (eCons (eV 3) (eNil)))) (eCons (e2 gAdd (eV 4) (eTup (eCons (FL.e1 gNeg (eC (.int 1))) (eNil)))) (eCons (e2 gAdd (eV 4) (eTup (eCons (eC .none) (eNil)))) (eCons (e2 gAdd (eV 4) (eTup (eCons (eC (.bool true)) (eNil)))) (eCons (e2 gAdd (eV 4) (eTup (eCons (eC (.str "0")) (eNil)))) (eCons (e2 gAdd (eV 4) (eSl (eN 4) (pNo) (pSo (eC (.int 1))))) (eCons (eSl (eN 4) (pSo (eC (.int 1))) (pNo)) (eCons (eSl (eN 4) (pNo) (pSo (FL.e1 gNeg (eC (.int 1))))) (eNil)))))))))))))
theorem X6_ok {n k : Nat} {ls : List (List Nat)} {r : List Nat} {q : List Int} {s5 s6 : Sl} (hr : r.length ≤ 7) : ∃ vs : List D, X6 (TB n k ls r s5 s6 q) = .ok (.list vs) (TB n k ls r s5 s6 q) ∧ vs.length ≤ 20 ∧ ∀ v ∈ vs, RowC v := by
  have hz : (r.map nD).length ≤ 7 := by rw [List.length_map]; omega
  have ha := add_row hr
  have g1 : gSl (some 1) none (tN r) = some (.tuple (FL.cut (r.map nD) (some 1) none)) := rfl
  have g2 : gSl none (some (-1)) (tN r) = some (.tuple (FL.cut (r.map nD) none (some (-1)))) := rfl
  have g3 : gSl none (some 1) (tN r) = some (.tuple (FL.cut (r.map nD) none (some 1))) := rfl
  have c1 := cut_len (r.map nD) (some 1) none
  have c2 := cut_len (r.map nD) none (some (-1))
  have c3 := cut_len (r.map nD) none (some 1)
  have hneg : gNeg (.int 1) = some (.int (-1)) := rfl
  have a2 : gAdd (tN r) (.tuple (FL.cut (r.map nD) none (some 1))) = some (.tuple (r.map nD ++ FL.cut (r.map nD) none (some 1))) := add_tt (by omega)
  have l1 : gLstOf [tN r] = some (r.map nD) := rfl
  have f11 : ∀ a1 a2 a3 a4 a5 a6 a7 a8 a9 a10 a11 : D, few [a1, a2, a3, a4, a5, a6, a7, a8, a9, a10, a11] = some [a1, a2, a3, a4, a5, a6, a7, a8, a9, a10, a11] := fun a1 a2 a3 a4 a5 a6 a7 a8 a9 a10 a11 => few_n (by simp)
  refine ⟨[.none, .list (r.map nD), .tuple (r.map nD ++ [nD k]), .tuple (r.map nD ++ [nD n]), .tuple (r.map nD ++ [.int (-1)]), .tuple (r.map nD ++ [.none]), .tuple (r.map nD ++ [.bool true]), .tuple (r.map nD ++ [.str "0"]), .tuple (r.map nD ++ FL.cut (r.map nD) none (some 1)), .tuple (FL.cut (r.map nD) (some 1) none), .tuple (FL.cut (r.map nD) none (some (-1)))], ?_, by simp, ?_⟩
  · have key : ∀ (A : D → List D) (b1 b2 b3 b4 b5 : List D), (∀ x, gAdd (tN r) (.tuple [x]) = some (.tuple (A x))) → gSl (some 1) none (tN r) = some (.tuple b1) → gSl none (some (-1)) (tN r) = some (.tuple b2) → gSl none (some 1) (tN r) = some (.tuple b3) → gAdd (tN r) (.tuple b3) = some (.tuple b4) → gLstOf [tN r] = some b5 →
        X6 (TB n k ls r s5 s6 q) = .ok (.list [.none, .list b5, .tuple (A (nD k)), .tuple (A (nD n)), .tuple (A (.int (-1))), .tuple (A .none), .tuple (A (.bool true)), .tuple (A (.str "0")), .tuple b4, .tuple b1, .tuple b2]) (TB n k ls r s5 s6 q) := by
      intro A b1 b2 b3 b4 b5 ha g1 g2 g3 a2 l1
      simp (config := { implicitDefEqProofs := false }) only [X6, TB, FL.lift_a, FL.eC_a, FL.eV_a, FL.eN_a, FL.eP_p, FL.rd_d, FL.rd_i, FL.rd_p, FL.toSrc_a, FL.e1_a, FL.e2_a, FL.eCmp_a, FL.eBool_a, FL.eChain_a, FL.eChain_t, FL.pure_a, FL.eTruth_a, FL.bNot_a, FL.bAnd_a, FL.bOr_a, FL.bYes_a, FL.eIf_a, FL.vAnd_a, FL.vOr_a, FL.asBool_a, FL.eNil_a, FL.eCons_a, FL.eTup_a, FL.eLst_a, FL.eL_a, FL.eIx_a, FL.eSl_a, FL.pNo_a, FL.pSo_a, FL.asInt_a, FL.sNil_a, FL.sCons_a, FL.rdA_n, FL.rdA_c, FL.eCall1_a, FL.eCallL_a, FL.eIsi_a, FL.eM1_a, FL.sSeq_a, FL.sSeqL_a, FL.sIfL_a, FL.sNx_a, FL.sBk_a, FL.sCt_a, FL.sRet_a, FL.sRetN_a, FL.sDrop_a, FL.sIf_a, FL.aN_a, FL.aNil_a, FL.aCons_a, FL.aTup_a, FL.aPool_0, FL.aPool_1, FL.aPool_2, FL.sSet_a, FL.sSetO_a, FL.sAsg_a, FL.sApp_a, FL.sExt_a, FL.ePop_a, FL.sStore_a, FL.aSub_a, FL.ownAt_a, FL.putAt_a, FL.sPar_a, FL.mNil_a, FL.mV_a, FL.mO_a, FL.setAll_c, FL.setAll_n, FL.eDm_a, FL.eCall_a, FL.eCallP_a, FL.eCallO_a, FL.eCallOP_a, FL.arrB_a, FL.iEn_a, FL.turn_a, FL.fnB_a, FL.fnL_a, FL.rep_s, FL.rep_z, FL.few_z, FL.few_1, FL.few_2, FL.few_3, FL.gAdd_i, FL.gSub_i, FL.cLt_i, FL.cLe_i, FL.cGt_i, FL.cGe_i, FL.cEq_i, FL.cNe_i, FL.cEq_str, FL.cNe_str, FL.eqv_b, FL.cEq_b, FL.truth_b, FL.truth_i, FL.truth_l, FL.truth_t, FL.gLen_l, FL.gLen_t, FL.gInt_i, FL.gTup_l, FL.gTup_t, FL.items_l, FL.items_t, FL.cIs_b, FL.gIx_l0, FL.gIx_l1, FL.gIx_l2, FL.gIx_t0, FL.gIx_t1, FL.gIx_t2, FL.cLt_n, FL.cLt_ni, FL.cLt_in, FL.cLe_n, FL.cLe_ni, FL.cLe_in, FL.cGt_n, FL.cGt_ni, FL.cGe_n, FL.cGe_ni, FL.cEq_n, FL.cEq_ni, FL.cEq_in, FL.cNe_n, FL.cNe_ni, FL.gAdd_n, FL.gAdd_ni, FL.gAdd_in, FL.gSub_ni, FL.gSub_nn, FL.gSub_in, FL.gInt_n, FL.cEq_tN, FL.cNe_tN, FL.cEq_lN, FL.sh_nilL, FL.sh_nilT, FL.gLen_tN, FL.gLen_tT, FL.gIx_tN, FL.gIx_tT, FL.items_tN, FL.items_tT, FL.ty_i, FL.ty_n, FL.ty_tN, FL.ty_tT, FL.kit_ii, FL.kit_ib, FL.kit_tt, FL.kit_lt, FL.same_tN, FL.same_l, FL.arr_n, FL.arr_c, List.getElem?_cons_zero, List.getElem?_cons_succ, List.set_cons_zero, List.set_cons_succ, List.length_cons, List.length_nil, List.map_cons, List.map_nil, List.cons_append, List.nil_append, Bool.not_true, Bool.not_false, if_true, if_false, Bool.false_eq_true, FL.R.bind, eq_self, and_self, decide_true, decide_false, Option.bind_some, Option.map_some, List.length_map, FL.wipeE, FL.backE, ha, g1, g2, g3, a2, hneg, l1, e1_a, f11]
    exact key (fun x => r.map nD ++ [x]) _ _ _ _ _ ha g1 g2 g3 a2 l1
  · intro v hv
    simp only [List.mem_cons, List.not_mem_nil, or_false] at hv
    rcases hv with rfl | rfl | rfl | rfl | rfl | rfl | rfl | rfl | rfl | rfl | rfl
    · exact rowC_o rfl rfl
    · exact rowC_o rfl rfl
    · exact row_app hr (itm_n k)
    · exact row_app hr (itm_n n)
    · exact row_app hr (itm_o rfl rfl (by simp [PyData.depth]))
    · exact row_app hr (itm_o rfl rfl (by simp [PyData.depth]))
    · exact row_app hr (itm_o rfl rfl (by simp [PyData.depth]))
    · exact row_app hr (itm_o rfl (by decide +kernel) (by simp [PyData.depth]))
    · refine rowC_tup (by rw [List.length_append]; omega) fun e he => ?_
      rcases List.mem_append.mp he with he | he
      · exact itms e he
      · exact itms e (cut_mem he)
    · exact rowC_tup (by omega) fun e he => itms e (cut_mem he)
    · exact rowC_tup (by omega) fun e he => itms e (cut_mem he)
abbrev X6b (F : Fn) : B D := eL (eLst (eCons (eRev (eN 4)) (eCons (eTup (eNil)) (eCons (eC (.int 0)) (eCons (eTup (eCons (eV 4) (eNil))) (eCons (eTR1 (eV 3)) (eCons (e2 gAdd (eV 4) (eTup (eCons (eCallP F (eCons (eV 0) (eCons (eV 3) (eNil)))) (eNil)))) (eNil))))))))
theorem eTR1_i {f : B D} {s s1 : S} {i : Int} (hf : f s = .ok (.int i) s1) (h : okRg 0 i = true) : eTR1 f s = .ok (.tuple (rangeD 0 i)) s1 := by
  unfold eTR1
  rw [bind_def, hf]
  simp only [R.bind]
  rw [if_pos h]
  simp only [FL.lift]
theorem eTR1_n {f : B D} {s s1 : S} {n : Nat} (hf : f s = .ok (.int (n : Nat)) s1) (h : n ≤ 16777216) : eTR1 f s = .ok (.tuple ((List.range n).map nD)) s1 := by
  rw [eTR1_i hf (okR h), rangeD_n]
theorem X6b_key {n k t : Nat} {ls : List (List Nat)} {r : List Nat} {q q' : List Int} {s5 s6 : Sl} {F : Fn} {T : B D} {A : D → List D} {b1 b2 : List D} (hF : F [poolD, nD n] (some q) = .ok (nD t) (some q')) (ha : ∀ x, gAdd (tN r) (.tuple [x]) = some (.tuple (A x))) (v1 : gRev (tN r) = some (.tuple b1)) (hT : T (TB n k ls r s5 s6 q) = .ok (.tuple b2) (TB n k ls r s5 s6 q)) :
    eL (eLst (eCons (eRev (eN 4)) (eCons (eTup (eNil)) (eCons (eC (.int 0)) (eCons (eTup (eCons (eV 4) (eNil))) (eCons T (eCons (e2 gAdd (eV 4) (eTup (eCons (eCallP F (eCons (eV 0) (eCons (eV 3) (eNil)))) (eNil)))) (eNil)))))))) (TB n k ls r s5 s6 q) = .ok (.list [.tuple b1, .tuple [], .int 0, .tuple [tN r], .tuple b2, .tuple (A (nD t))]) (TB n k ls r s5 s6 q') := by
  have f6 : ∀ a1 a2 a3 a4 a5 a6 : D, few [a1, a2, a3, a4, a5, a6] = some [a1, a2, a3, a4, a5, a6] := fun a1 a2 a3 a4 a5 a6 => few_n (by simp)
  simp only [TB] at hT
  simp (config := { implicitDefEqProofs := false }) only [TB, FL.lift_a, FL.eC_a, FL.eV_a, FL.eN_a, FL.eP_p, FL.rd_d, FL.rd_i, FL.rd_p, FL.toSrc_a, FL.e1_a, FL.e2_a, FL.eCmp_a, FL.eBool_a, FL.eChain_a, FL.eChain_t, FL.pure_a, FL.eTruth_a, FL.bNot_a, FL.bAnd_a, FL.bOr_a, FL.bYes_a, FL.eIf_a, FL.vAnd_a, FL.vOr_a, FL.asBool_a, FL.eNil_a, FL.eCons_a, FL.eTup_a, FL.eLst_a, FL.eL_a, FL.eIx_a, FL.eSl_a, FL.pNo_a, FL.pSo_a, FL.asInt_a, FL.sNil_a, FL.sCons_a, FL.rdA_n, FL.rdA_c, FL.eCall1_a, FL.eCallL_a, FL.eIsi_a, FL.eM1_a, FL.sSeq_a, FL.sSeqL_a, FL.sIfL_a, FL.sNx_a, FL.sBk_a, FL.sCt_a, FL.sRet_a, FL.sRetN_a, FL.sDrop_a, FL.sIf_a, FL.aN_a, FL.aNil_a, FL.aCons_a, FL.aTup_a, FL.aPool_0, FL.aPool_1, FL.aPool_2, FL.sSet_a, FL.sSetO_a, FL.sAsg_a, FL.sApp_a, FL.sExt_a, FL.ePop_a, FL.sStore_a, FL.aSub_a, FL.ownAt_a, FL.putAt_a, FL.sPar_a, FL.mNil_a, FL.mV_a, FL.mO_a, FL.setAll_c, FL.setAll_n, FL.eDm_a, FL.eCall_a, FL.eCallP_a, FL.eCallO_a, FL.eCallOP_a, FL.arrB_a, FL.iEn_a, FL.turn_a, FL.fnB_a, FL.fnL_a, FL.rep_s, FL.rep_z, FL.few_z, FL.few_1, FL.few_2, FL.few_3, FL.gAdd_i, FL.gSub_i, FL.cLt_i, FL.cLe_i, FL.cGt_i, FL.cGe_i, FL.cEq_i, FL.cNe_i, FL.cEq_str, FL.cNe_str, FL.eqv_b, FL.cEq_b, FL.truth_b, FL.truth_i, FL.truth_l, FL.truth_t, FL.gLen_l, FL.gLen_t, FL.gInt_i, FL.gTup_l, FL.gTup_t, FL.items_l, FL.items_t, FL.cIs_b, FL.gIx_l0, FL.gIx_l1, FL.gIx_l2, FL.gIx_t0, FL.gIx_t1, FL.gIx_t2, FL.cLt_n, FL.cLt_ni, FL.cLt_in, FL.cLe_n, FL.cLe_ni, FL.cLe_in, FL.cGt_n, FL.cGt_ni, FL.cGe_n, FL.cGe_ni, FL.cEq_n, FL.cEq_ni, FL.cEq_in, FL.cNe_n, FL.cNe_ni, FL.gAdd_n, FL.gAdd_ni, FL.gAdd_in, FL.gSub_ni, FL.gSub_nn, FL.gSub_in, FL.gInt_n, FL.cEq_tN, FL.cNe_tN, FL.cEq_lN, FL.sh_nilL, FL.sh_nilT, FL.gLen_tN, FL.gLen_tT, FL.gIx_tN, FL.gIx_tT, FL.items_tN, FL.items_tT, FL.ty_i, FL.ty_n, FL.ty_tN, FL.ty_tT, FL.kit_ii, FL.kit_ib, FL.kit_tt, FL.kit_lt, FL.same_tN, FL.same_l, FL.arr_n, FL.arr_c, List.getElem?_cons_zero, List.getElem?_cons_succ, List.set_cons_zero, List.set_cons_succ, List.length_cons, List.length_nil, List.map_cons, List.map_nil, List.cons_append, List.nil_append, Bool.not_true, Bool.not_false, if_true, if_false, Bool.false_eq_true, FL.R.bind, eq_self, and_self, decide_true, decide_false, Option.bind_some, Option.map_some, List.length_map, FL.wipeE, FL.backE, eRev_a, hF, ha, v1, hT, f6]
theorem X6b_ok {n k : Nat} {ls : List (List Nat)} {r : List Nat} {q : List Int} {s5 s6 : Sl} (hr : r.length ≤ 7) (h1 : 1 ≤ n) (hn : n ≤ 7) (hq : PoolOk q) : ∃ (vs : List D) (q' : List Int), X6b f__law_draw (TB n k ls r s5 s6 q) = .ok (.list vs) (TB n k ls r s5 s6 q') ∧ PoolOk q' ∧ vs.length ≤ 20 ∧ ∀ v ∈ vs, RowC v := by
  obtain ⟨t, q', _, hq', hd⟩ := draw_nat (m := n) hq h1 (by omega)
  have hT : eTR1 (eV 3) (TB n k ls r s5 s6 q) = .ok (.tuple ((List.range n).map nD)) (TB n k ls r s5 s6 q) := eTR1_n rfl (by omega)
  have e := X6b_key (A := fun x => r.map nD ++ [x]) (b1 := (r.map nD).reverse) hd (add_row hr) rfl hT
  refine ⟨_, q', e, hq', by simp, ?_⟩
  intro v hv
  simp only [List.mem_cons, List.not_mem_nil, or_false] at hv
  rcases hv with rfl | rfl | rfl | rfl | rfl | rfl
  · exact rowC_tup (by rw [List.length_reverse, List.length_map]; omega) fun e he => itms e (List.mem_reverse.mp he)
  · exact rowC_tup (by simp) fun e he => by simp at he
  · exact rowC_o rfl rfl
  · exact rowC_tup (by simp) fun e he => by rw [List.mem_singleton.mp he]; exact itm_tN r
  · exact rowC_tup (by rw [List.length_map, List.length_range]; omega) itms
  · exact row_app hr (itm_n t)
theorem pC_ok {n k : Nat} {ls : List (List Nat)} {r : List Nat} {odds : List D} {q : List Int} {s5 : Sl} (hk : k < ls.length) (hl : ls.length ≤ 7) (ho : odds.length ≤ 100) : eLc (iItems (eV 6)) [7] (aN 7) (bYes) (eCall f__law_put (eCons (eV 1) (eCons (eV 2) (eCons (eV 7) (eNil))))) (TB n k ls r s5 (.v (.list odds)) q) = .ok (odds.map fun d => .tuple (putD (ls.map tN) k d)) (TB n k ls r s5 (.v (.list odds)) q) := by
  rw [← fm_some]
  have hf : iItems (eV 6) (TB n k ls r s5 (.v (.list odds)) q) = .ok (odds.map id) (TB n k ls r s5 (.v (.list odds)) q) := by
    rw [List.map_id]
    exact iItems_l rfl
  refine eLc_filterA id _ _ hf (fun d hd => ⟨[.v poolD, .v (tTT ls), .v (nD k), .v (nD n), .v (tN r), s5, .v (.list odds), .v d], ?_, rfl⟩) (by rw [sizeLine_eq]; omega)
  have key : ∀ (F : Fn) (x : D), F [tTT ls, nD k, d] none = .ok x none → turnB (aN 7) bYes (eCall F (eCons (eV 1) (eCons (eV 2) (eCons (eV 7) (eNil))))) d ⟨wipeE [.v poolD, .v (tTT ls), .v (nD k), .v (nD n), .v (tN r), s5, .v (.list odds), .no] [7], some q⟩ = .ok (some x) ⟨[.v poolD, .v (tTT ls), .v (nD k), .v (nD n), .v (tN r), s5, .v (.list odds), .v d], some q⟩ := by
    intro F x hF
    simp (config := { implicitDefEqProofs := false }) only [FL.lift_a, FL.eC_a, FL.eV_a, FL.eN_a, FL.eP_p, FL.rd_d, FL.rd_i, FL.rd_p, FL.toSrc_a, FL.e1_a, FL.e2_a, FL.eCmp_a, FL.eBool_a, FL.eChain_a, FL.eChain_t, FL.pure_a, FL.eTruth_a, FL.bNot_a, FL.bAnd_a, FL.bOr_a, FL.bYes_a, FL.eIf_a, FL.vAnd_a, FL.vOr_a, FL.asBool_a, FL.eNil_a, FL.eCons_a, FL.eTup_a, FL.eLst_a, FL.eL_a, FL.eIx_a, FL.eSl_a, FL.pNo_a, FL.pSo_a, FL.asInt_a, FL.sNil_a, FL.sCons_a, FL.rdA_n, FL.rdA_c, FL.eCall1_a, FL.eCallL_a, FL.eIsi_a, FL.eM1_a, FL.sSeq_a, FL.sSeqL_a, FL.sIfL_a, FL.sNx_a, FL.sBk_a, FL.sCt_a, FL.sRet_a, FL.sRetN_a, FL.sDrop_a, FL.sIf_a, FL.aN_a, FL.aNil_a, FL.aCons_a, FL.aTup_a, FL.aPool_0, FL.aPool_1, FL.aPool_2, FL.sSet_a, FL.sSetO_a, FL.sAsg_a, FL.sApp_a, FL.sExt_a, FL.ePop_a, FL.sStore_a, FL.aSub_a, FL.ownAt_a, FL.putAt_a, FL.sPar_a, FL.mNil_a, FL.mV_a, FL.mO_a, FL.setAll_c, FL.setAll_n, FL.eDm_a, FL.eCall_a, FL.eCallP_a, FL.eCallO_a, FL.eCallOP_a, FL.arrB_a, FL.iEn_a, FL.turn_a, FL.fnB_a, FL.fnL_a, FL.rep_s, FL.rep_z, FL.few_z, FL.few_1, FL.few_2, FL.few_3, FL.gAdd_i, FL.gSub_i, FL.cLt_i, FL.cLe_i, FL.cGt_i, FL.cGe_i, FL.cEq_i, FL.cNe_i, FL.cEq_str, FL.cNe_str, FL.eqv_b, FL.cEq_b, FL.truth_b, FL.truth_i, FL.truth_l, FL.truth_t, FL.gLen_l, FL.gLen_t, FL.gInt_i, FL.gTup_l, FL.gTup_t, FL.items_l, FL.items_t, FL.cIs_b, FL.gIx_l0, FL.gIx_l1, FL.gIx_l2, FL.gIx_t0, FL.gIx_t1, FL.gIx_t2, FL.cLt_n, FL.cLt_ni, FL.cLt_in, FL.cLe_n, FL.cLe_ni, FL.cLe_in, FL.cGt_n, FL.cGt_ni, FL.cGe_n, FL.cGe_ni, FL.cEq_n, FL.cEq_ni, FL.cEq_in, FL.cNe_n, FL.cNe_ni, FL.gAdd_n, FL.gAdd_ni, FL.gAdd_in, FL.gSub_ni, FL.gSub_nn, FL.gSub_in, FL.gInt_n, FL.cEq_tN, FL.cNe_tN, FL.cEq_lN, FL.sh_nilL, FL.sh_nilT, FL.gLen_tN, FL.gLen_tT, FL.gIx_tN, FL.gIx_tT, FL.items_tN, FL.items_tT, FL.ty_i, FL.ty_n, FL.ty_tN, FL.ty_tT, FL.kit_ii, FL.kit_ib, FL.kit_tt, FL.kit_lt, FL.same_tN, FL.same_l, FL.arr_n, FL.arr_c, List.getElem?_cons_zero, List.getElem?_cons_succ, List.set_cons_zero, List.set_cons_succ, List.length_cons, List.length_nil, List.map_cons, List.map_nil, List.cons_append, List.nil_append, Bool.not_true, Bool.not_false, if_true, if_false, Bool.false_eq_true, FL.R.bind, eq_self, and_self, decide_true, decide_false, Option.bind_some, Option.map_some, List.length_map, FL.wipeE, FL.backE, hF]
  exact key _ _ (put_ok (ds := ls.map tN) (by rw [List.length_map]; exact hk) (by rw [List.length_map]; omega))
theorem bent_ok {n : Nat} {ls : List (List Nat)} {q : List Int} (h : BkOk n ls) (hq : PoolOk q) : ∃ (vs : List D) (q' : List Int), f__law_bent_books [poolD, tTT ls] (some q) = .ok (.list vs) (some q') ∧ PoolOk q' ∧ vs.length ≤ 100 ∧ ∀ v ∈ vs, Val v := by
  have hl := h.len
  have h7 := h.hi
  have h1 := h.lo
  obtain ⟨k, q1, hk, hq1, hd⟩ := draw_nat (m := n) hq h1 (by omega)
  have hkl : k < ls.length := by omega
  have hr : (ls.getD k []).length ≤ 7 := h.row.len hkl
  obtain ⟨v5, e5, l5, w5⟩ := X5_ok (k := k) (s5 := .no) (s6 := .no) (q := q1) h hr
  obtain ⟨v6, e6, l6, w6⟩ := X6_ok (n := n) (k := k) (ls := ls) (s5 := .v (.list v5)) (s6 := .no) (q := q1) hr
  obtain ⟨v7, q2, e7, hq2, l7, w7⟩ := X6b_ok (n := n) (k := k) (ls := ls) (s5 := .v (.list v5)) (s6 := .v (.list v6)) hr h1 h7 hq1
  have hC := pC_ok (n := n) (r := ls.getD k []) (odds := v6 ++ v7) (q := q2) (s5 := .v (.list v5)) hkl (by omega) (by rw [List.length_append]; omega)
  have a1 : gAdd (.list v6) (.list v7) = some (.list (v6 ++ v7)) := add_ll (by omega)
  have a2 : gAdd (.list v5) (.list ((v6 ++ v7).map fun d => PyData.tuple (putD (ls.map tN) k d))) = some (.list (v5 ++ (v6 ++ v7).map fun d => PyData.tuple (putD (ls.map tN) k d))) := add_ll (by rw [List.length_map, List.length_append]; omega)
  refine ⟨v5 ++ (v6 ++ v7).map fun d => .tuple (putD (ls.map tN) k d), q2, ?_, hq2, by rw [List.length_append, List.length_map, List.length_append]; omega, fun v hv => ?_⟩
  · have gr := gIx_row hkl
    have key : ∀ (F : Fn) (A B6 B7 : B D) (C : B (List D)) (o fin : List D), F [poolD, nD n] (some q) = .ok (nD k) (some q1) → A (TB n k ls (ls.getD k []) .no .no q1) = .ok (.list v5) (TB n k ls (ls.getD k []) .no .no q1) → B6 (TB n k ls (ls.getD k []) (.v (.list v5)) .no q1) = .ok (.list v6) (TB n k ls (ls.getD k []) (.v (.list v5)) .no q1) → B7 (TB n k ls (ls.getD k []) (.v (.list v5)) (.v (.list v6)) q1) = .ok (.list v7) (TB n k ls (ls.getD k []) (.v (.list v5)) (.v (.list v6)) q2) →
        gAdd (.list v6) (.list v7) = some (.list (v6 ++ v7)) → C (TB n k ls (ls.getD k []) (.v (.list v5)) (.v (.list (v6 ++ v7))) q2) = .ok o (TB n k ls (ls.getD k []) (.v (.list v5)) (.v (.list (v6 ++ v7))) q2) → gAdd (.list v5) (.list o) = some (.list fin) →
        fnB 2 8 (sSeq (sAsg (eTup (eCons (eCallP F (eCons (eV 0) (eCons (eCall1 gLen (sCons (eN 1) (sNil))) (eNil)))) (eCons (eCall1 gLen (sCons (eN 1) (sNil))) (eNil)))) (aTup (aCons (aN 2) (aCons (aN 3) (aNil))))) (sSeq (sSet 4 (eIx (eN 1) (eV 2))) (sSeq (sSet 5 A) (sSeq (sSet 6 B6) (sSeq (sSet 6 (e2 gAdd (eV 6) B7)) (sRet (e2 gAdd (eV 5) (eL C)))))))) [poolD, tTT ls] (some q) = .ok (.list fin) (some q2) := by
      intro F A B6 B7 C o fin hF hA h6 h7 a1 hC a2
      simp only [TB] at hA h6 h7 hC
      generalize gAdd = g at a1 a2 ⊢
      generalize v6 ++ v7 = v67 at a1 hC
      simp (config := { implicitDefEqProofs := false }) only [FL.lift_a, FL.eC_a, FL.eV_a, FL.eN_a, FL.eP_p, FL.rd_d, FL.rd_i, FL.rd_p, FL.toSrc_a, FL.e1_a, FL.e2_a, FL.eCmp_a, FL.eBool_a, FL.eChain_a, FL.eChain_t, FL.pure_a, FL.eTruth_a, FL.bNot_a, FL.bAnd_a, FL.bOr_a, FL.bYes_a, FL.eIf_a, FL.vAnd_a, FL.vOr_a, FL.asBool_a, FL.eNil_a, FL.eCons_a, FL.eTup_a, FL.eLst_a, FL.eL_a, FL.eIx_a, FL.eSl_a, FL.pNo_a, FL.pSo_a, FL.asInt_a, FL.sNil_a, FL.sCons_a, FL.rdA_n, FL.rdA_c, FL.eCall1_a, FL.eCallL_a, FL.eIsi_a, FL.eM1_a, FL.sSeq_a, FL.sSeqL_a, FL.sIfL_a, FL.sNx_a, FL.sBk_a, FL.sCt_a, FL.sRet_a, FL.sRetN_a, FL.sDrop_a, FL.sIf_a, FL.aN_a, FL.aNil_a, FL.aCons_a, FL.aTup_a, FL.aPool_0, FL.aPool_1, FL.aPool_2, FL.sSet_a, FL.sSetO_a, FL.sAsg_a, FL.sApp_a, FL.sExt_a, FL.ePop_a, FL.sStore_a, FL.aSub_a, FL.ownAt_a, FL.putAt_a, FL.sPar_a, FL.mNil_a, FL.mV_a, FL.mO_a, FL.setAll_c, FL.setAll_n, FL.eDm_a, FL.eCall_a, FL.eCallP_a, FL.eCallO_a, FL.eCallOP_a, FL.arrB_a, FL.iEn_a, FL.turn_a, FL.fnB_a, FL.fnL_a, FL.rep_s, FL.rep_z, FL.few_z, FL.few_1, FL.few_2, FL.few_3, FL.gSub_i, FL.cLt_i, FL.cLe_i, FL.cGt_i, FL.cGe_i, FL.cEq_i, FL.cNe_i, FL.cEq_str, FL.cNe_str, FL.eqv_b, FL.cEq_b, FL.truth_b, FL.truth_i, FL.truth_l, FL.truth_t, FL.gLen_l, FL.gLen_t, FL.gInt_i, FL.gTup_l, FL.gTup_t, FL.items_l, FL.items_t, FL.cIs_b, FL.gIx_l0, FL.gIx_l1, FL.gIx_l2, FL.gIx_t0, FL.gIx_t1, FL.gIx_t2, FL.cLt_n, FL.cLt_ni, FL.cLt_in, FL.cLe_n, FL.cLe_ni, FL.cLe_in, FL.cGt_n, FL.cGt_ni, FL.cGe_n, FL.cGe_ni, FL.cEq_n, FL.cEq_ni, FL.cEq_in, FL.cNe_n, FL.cNe_ni, FL.gSub_ni, FL.gSub_nn, FL.gSub_in, FL.gInt_n, FL.cEq_tN, FL.cNe_tN, FL.cEq_lN, FL.sh_nilL, FL.sh_nilT, FL.gLen_tN, FL.gLen_tT, FL.gIx_tN, FL.items_tN, FL.items_tT, FL.ty_i, FL.ty_n, FL.ty_tN, FL.ty_tT, FL.kit_ii, FL.kit_ib, FL.kit_tt, FL.kit_lt, FL.same_tN, FL.same_l, FL.arr_n, FL.arr_c, List.getElem?_cons_zero, List.getElem?_cons_succ, List.set_cons_zero, List.set_cons_succ, List.length_cons, List.length_nil, List.map_cons, List.map_nil, List.cons_append, List.nil_append, Bool.not_true, Bool.not_false, if_true, if_false, Bool.false_eq_true, FL.R.bind, eq_self, and_self, decide_true, decide_false, Option.bind_some, Option.map_some, List.length_map, FL.wipeE, FL.backE, hl, hF, gr, hA, h6, h7, a1, hC, a2]
    exact key _ _ _ _ _ _ _ hd e5 e6 e7 a1 hC a2
  · rcases List.mem_append.mp hv with hv | hv
    · exact w5 v hv
    · obtain ⟨d, hdm, rfl⟩ := List.mem_map.mp hv
      refine putD_val (by rw [List.length_map]; omega) h.rowCs ?_
      rcases List.mem_append.mp hdm with hdm | hdm
      · exact w6 d hdm
      · exact w7 d hdm
end M
set_option maxHeartbeats 4000000
/-! k03: couples struck out; the turns of the law. -/
namespace M
open PySem PySem.Spec PyProof.Rows L2 FL
abbrev cpC : B (List D) := eLc (iR2 (e2 gAdd (eV 2) (eC (.int 1))) (eCall1 gLen (sCons (eN 0) (sNil)))) [3] (aN 3) (eCmp (cIn false) (eN 3) (toSrc (eIx (eN 0) (eV 2)))) (eTup (eCons (eV 2) (eCons (eV 3) (eNil))))
theorem cpC_ok {ls : List (List Nat)} (h : Rows ls) {i : Nat} (hi : i < ls.length) {s1 : Sl} : ∃ cs : List (List Nat), cs.length ≤ 7 ∧ (∀ x ∈ cs, ∃ j, x = [i, j] ∧ j ∈ ls.getD i []) ∧ cpC ⟨[.v (tTT ls), s1, .v (nD i), .no], none⟩ = .ok (cs.map tN) ⟨[.v (tTT ls), s1, .v (nD i), .no], none⟩ := by
  have h7 := h.hi
  have hr : iR2 (e2 gAdd (eV 2) (eC (.int 1))) (eCall1 gLen (sCons (eN 0) (sNil))) ⟨[.v (tTT ls), s1, .v (nD i), .no], none⟩ = .ok ((List.range (ls.length - (i + 1))).map fun t => nD (i + 1 + t)) ⟨[.v (tTT ls), s1, .v (nD i), .no], none⟩ := by
    refine iR2_r (s1 := ⟨[.v (tTT ls), s1, .v (nD i), .no], none⟩) ?_ ?_ (by omega) (by omega)
    · simp (config := { implicitDefEqProofs := false }) only [FL.lift_a, FL.eC_a, FL.eV_a, FL.eN_a, FL.eP_p, FL.rd_d, FL.rd_i, FL.rd_p, FL.toSrc_a, FL.e1_a, FL.e2_a, FL.eCmp_a, FL.eBool_a, FL.eChain_a, FL.eChain_t, FL.pure_a, FL.eTruth_a, FL.bNot_a, FL.bAnd_a, FL.bOr_a, FL.bYes_a, FL.eIf_a, FL.vAnd_a, FL.vOr_a, FL.asBool_a, FL.eNil_a, FL.eCons_a, FL.eTup_a, FL.eLst_a, FL.eL_a, FL.eIx_a, FL.eSl_a, FL.pNo_a, FL.pSo_a, FL.asInt_a, FL.sNil_a, FL.sCons_a, FL.rdA_n, FL.rdA_c, FL.eCall1_a, FL.eCallL_a, FL.eIsi_a, FL.eM1_a, FL.sSeq_a, FL.sSeqL_a, FL.sIfL_a, FL.sNx_a, FL.sBk_a, FL.sCt_a, FL.sRet_a, FL.sRetN_a, FL.sDrop_a, FL.sIf_a, FL.aN_a, FL.aNil_a, FL.aCons_a, FL.aTup_a, FL.aPool_0, FL.aPool_1, FL.aPool_2, FL.sSet_a, FL.sSetO_a, FL.sAsg_a, FL.sApp_a, FL.sExt_a, FL.ePop_a, FL.sStore_a, FL.aSub_a, FL.ownAt_a, FL.putAt_a, FL.sPar_a, FL.mNil_a, FL.mV_a, FL.mO_a, FL.setAll_c, FL.setAll_n, FL.eDm_a, FL.eCall_a, FL.eCallP_a, FL.eCallO_a, FL.eCallOP_a, FL.arrB_a, FL.iEn_a, FL.turn_a, FL.fnB_a, FL.fnL_a, FL.rep_s, FL.rep_z, FL.few_z, FL.few_1, FL.few_2, FL.few_3, FL.gAdd_i, FL.gSub_i, FL.cLt_i, FL.cLe_i, FL.cGt_i, FL.cGe_i, FL.cEq_i, FL.cNe_i, FL.cEq_str, FL.cNe_str, FL.eqv_b, FL.cEq_b, FL.truth_b, FL.truth_i, FL.truth_l, FL.truth_t, FL.gLen_l, FL.gLen_t, FL.gInt_i, FL.gTup_l, FL.gTup_t, FL.items_l, FL.items_t, FL.cIs_b, FL.gIx_l0, FL.gIx_l1, FL.gIx_l2, FL.gIx_t0, FL.gIx_t1, FL.gIx_t2, FL.cLt_n, FL.cLt_ni, FL.cLt_in, FL.cLe_n, FL.cLe_ni, FL.cLe_in, FL.cGt_n, FL.cGt_ni, FL.cGe_n, FL.cGe_ni, FL.cEq_n, FL.cEq_ni, FL.cEq_in, FL.cNe_n, FL.cNe_ni, FL.gAdd_n, FL.gAdd_in, FL.gSub_ni, FL.gSub_nn, FL.gSub_in, FL.gInt_n, FL.cEq_tN, FL.cNe_tN, FL.cEq_lN, FL.sh_nilL, FL.sh_nilT, FL.gLen_tN, FL.gLen_tT, FL.gIx_tN, FL.gIx_tT, FL.items_tN, FL.items_tT, FL.ty_i, FL.ty_n, FL.ty_tN, FL.ty_tT, FL.kit_ii, FL.kit_ib, FL.kit_tt, FL.kit_lt, FL.same_tN, FL.same_l, FL.arr_n, FL.arr_c, List.getElem?_cons_zero, List.getElem?_cons_succ, List.set_cons_zero, List.set_cons_succ, List.length_cons, List.length_nil, List.map_cons, List.map_nil, List.cons_append, List.nil_append, Bool.not_true, Bool.not_false, if_true, if_false, Bool.false_eq_true, FL.R.bind, eq_self, and_self, decide_true, decide_false, Option.bind_some, Option.map_some, List.length_map, FL.wipeE, FL.backE, gAdd_n1]
    · simp (config := { implicitDefEqProofs := false }) only [FL.lift_a, FL.eC_a, FL.eV_a, FL.eN_a, FL.eP_p, FL.rd_d, FL.rd_i, FL.rd_p, FL.toSrc_a, FL.e1_a, FL.e2_a, FL.eCmp_a, FL.eBool_a, FL.eChain_a, FL.eChain_t, FL.pure_a, FL.eTruth_a, FL.bNot_a, FL.bAnd_a, FL.bOr_a, FL.bYes_a, FL.eIf_a, FL.vAnd_a, FL.vOr_a, FL.asBool_a, FL.eNil_a, FL.eCons_a, FL.eTup_a, FL.eLst_a, FL.eL_a, FL.eIx_a, FL.eSl_a, FL.pNo_a, FL.pSo_a, FL.asInt_a, FL.sNil_a, FL.sCons_a, FL.rdA_n, FL.rdA_c, FL.eCall1_a, FL.eCallL_a, FL.eIsi_a, FL.eM1_a, FL.sSeq_a, FL.sSeqL_a, FL.sIfL_a, FL.sNx_a, FL.sBk_a, FL.sCt_a, FL.sRet_a, FL.sRetN_a, FL.sDrop_a, FL.sIf_a, FL.aN_a, FL.aNil_a, FL.aCons_a, FL.aTup_a, FL.aPool_0, FL.aPool_1, FL.aPool_2, FL.sSet_a, FL.sSetO_a, FL.sAsg_a, FL.sApp_a, FL.sExt_a, FL.ePop_a, FL.sStore_a, FL.aSub_a, FL.ownAt_a, FL.putAt_a, FL.sPar_a, FL.mNil_a, FL.mV_a, FL.mO_a, FL.setAll_c, FL.setAll_n, FL.eDm_a, FL.eCall_a, FL.eCallP_a, FL.eCallO_a, FL.eCallOP_a, FL.arrB_a, FL.iEn_a, FL.turn_a, FL.fnB_a, FL.fnL_a, FL.rep_s, FL.rep_z, FL.few_z, FL.few_1, FL.few_2, FL.few_3, FL.gAdd_i, FL.gSub_i, FL.cLt_i, FL.cLe_i, FL.cGt_i, FL.cGe_i, FL.cEq_i, FL.cNe_i, FL.cEq_str, FL.cNe_str, FL.eqv_b, FL.cEq_b, FL.truth_b, FL.truth_i, FL.truth_l, FL.truth_t, FL.gLen_l, FL.gLen_t, FL.gInt_i, FL.gTup_l, FL.gTup_t, FL.items_l, FL.items_t, FL.cIs_b, FL.gIx_l0, FL.gIx_l1, FL.gIx_l2, FL.gIx_t0, FL.gIx_t1, FL.gIx_t2, FL.cLt_n, FL.cLt_ni, FL.cLt_in, FL.cLe_n, FL.cLe_ni, FL.cLe_in, FL.cGt_n, FL.cGt_ni, FL.cGe_n, FL.cGe_ni, FL.cEq_n, FL.cEq_ni, FL.cEq_in, FL.cNe_n, FL.cNe_ni, FL.gAdd_n, FL.gAdd_ni, FL.gAdd_in, FL.gSub_ni, FL.gSub_nn, FL.gSub_in, FL.gInt_n, FL.cEq_tN, FL.cNe_tN, FL.cEq_lN, FL.sh_nilL, FL.sh_nilT, FL.gLen_tN, FL.gLen_tT, FL.gIx_tN, FL.gIx_tT, FL.items_tN, FL.items_tT, FL.ty_i, FL.ty_n, FL.ty_tN, FL.ty_tT, FL.kit_ii, FL.kit_ib, FL.kit_tt, FL.kit_lt, FL.same_tN, FL.same_l, FL.arr_n, FL.arr_c, List.getElem?_cons_zero, List.getElem?_cons_succ, List.set_cons_zero, List.set_cons_succ, List.length_cons, List.length_nil, List.map_cons, List.map_nil, List.cons_append, List.nil_append, Bool.not_true, Bool.not_false, if_true, if_false, Bool.false_eq_true, FL.R.bind, eq_self, and_self, decide_true, decide_false, Option.bind_some, Option.map_some, List.length_map, FL.wipeE, FL.backE]
  refine ⟨((List.range (ls.length - (i + 1))).filter fun t => decide (i + 1 + t ∈ ls.getD i [])).map fun t => [i, i + 1 + t], ?_, fun x hx => ?_, ?_⟩
  · rw [List.length_map]
    refine Nat.le_trans (List.length_filter_le _ _) ?_
    rw [List.length_range]
    omega
  · obtain ⟨t, ht, rfl⟩ := List.mem_map.mp hx
    exact ⟨_, rfl, of_decide_eq_true (List.mem_filter.mp ht).2⟩
  · have e1 : (((List.range (ls.length - (i + 1))).filter fun t => decide (i + 1 + t ∈ ls.getD i [])).map fun t => [i, i + 1 + t]).map tN = (List.range (ls.length - (i + 1))).filterMap fun t => if decide (i + 1 + t ∈ ls.getD i []) = true then some (tN [i, i + 1 + t]) else none := by
      rw [fm_if (fun t => tN [i, i + 1 + t]) fun t => decide (i + 1 + t ∈ ls.getD i []), List.map_map]
      rfl
    rw [e1]
    refine eLc_filterA (fun t => nD (i + 1 + t)) _ _ hr (fun t ht => ⟨[.v (tTT ls), s1, .v (nD i), .v (nD (i + 1 + t))], ?_, rfl⟩) (by rw [List.length_range, sizeLine_eq]; omega)
    have g := gIx_row hi
    have hc := cIn_nN false (i + 1 + t) (ls.getD i [])
    simp only [Bool.false_eq_true, if_false] at hc
    have ht : PyData.tuple [nD i, nD (i + 1 + t)] = tN [i, i + 1 + t] := rfl
    cases c : decide (i + 1 + t ∈ ls.getD i []) <;> rw [c] at hc
    · simp (config := { implicitDefEqProofs := false }) only [FL.lift_a, FL.eC_a, FL.eV_a, FL.eN_a, FL.eP_p, FL.rd_d, FL.rd_i, FL.rd_p, FL.toSrc_a, FL.e1_a, FL.e2_a, FL.eCmp_a, FL.eBool_a, FL.eChain_a, FL.eChain_t, FL.pure_a, FL.eTruth_a, FL.bNot_a, FL.bAnd_a, FL.bOr_a, FL.bYes_a, FL.eIf_a, FL.vAnd_a, FL.vOr_a, FL.asBool_a, FL.eNil_a, FL.eCons_a, FL.eTup_a, FL.eLst_a, FL.eL_a, FL.eIx_a, FL.eSl_a, FL.pNo_a, FL.pSo_a, FL.asInt_a, FL.sNil_a, FL.sCons_a, FL.rdA_n, FL.rdA_c, FL.eCall1_a, FL.eCallL_a, FL.eIsi_a, FL.eM1_a, FL.sSeq_a, FL.sSeqL_a, FL.sIfL_a, FL.sNx_a, FL.sBk_a, FL.sCt_a, FL.sRet_a, FL.sRetN_a, FL.sDrop_a, FL.sIf_a, FL.aN_a, FL.aNil_a, FL.aCons_a, FL.aTup_a, FL.aPool_0, FL.aPool_1, FL.aPool_2, FL.sSet_a, FL.sSetO_a, FL.sAsg_a, FL.sApp_a, FL.sExt_a, FL.ePop_a, FL.sStore_a, FL.aSub_a, FL.ownAt_a, FL.putAt_a, FL.sPar_a, FL.mNil_a, FL.mV_a, FL.mO_a, FL.setAll_c, FL.setAll_n, FL.eDm_a, FL.eCall_a, FL.eCallP_a, FL.eCallO_a, FL.eCallOP_a, FL.arrB_a, FL.iEn_a, FL.turn_a, FL.fnB_a, FL.fnL_a, FL.rep_s, FL.rep_z, FL.few_z, FL.few_1, FL.few_2, FL.few_3, FL.gAdd_i, FL.gSub_i, FL.cLt_i, FL.cLe_i, FL.cGt_i, FL.cGe_i, FL.cEq_i, FL.cNe_i, FL.cEq_str, FL.cNe_str, FL.eqv_b, FL.cEq_b, FL.truth_b, FL.truth_i, FL.truth_l, FL.truth_t, FL.gLen_l, FL.gLen_t, FL.gInt_i, FL.gTup_l, FL.gTup_t, FL.items_l, FL.items_t, FL.cIs_b, FL.gIx_l0, FL.gIx_l1, FL.gIx_l2, FL.gIx_t0, FL.gIx_t1, FL.gIx_t2, FL.cLt_n, FL.cLt_ni, FL.cLt_in, FL.cLe_n, FL.cLe_ni, FL.cLe_in, FL.cGt_n, FL.cGt_ni, FL.cGe_n, FL.cGe_ni, FL.cEq_n, FL.cEq_ni, FL.cEq_in, FL.cNe_n, FL.cNe_ni, FL.gAdd_n, FL.gAdd_ni, FL.gAdd_in, FL.gSub_ni, FL.gSub_nn, FL.gSub_in, FL.gInt_n, FL.cEq_tN, FL.cNe_tN, FL.cEq_lN, FL.sh_nilL, FL.sh_nilT, FL.gLen_tN, FL.gLen_tT, FL.gIx_tN, FL.items_tN, FL.items_tT, FL.ty_i, FL.ty_n, FL.ty_tN, FL.ty_tT, FL.kit_ii, FL.kit_ib, FL.kit_tt, FL.kit_lt, FL.same_tN, FL.same_l, FL.arr_n, FL.arr_c, List.getElem?_cons_zero, List.getElem?_cons_succ, List.set_cons_zero, List.set_cons_succ, List.length_cons, List.length_nil, List.map_cons, List.map_nil, List.cons_append, List.nil_append, Bool.not_true, Bool.not_false, if_true, if_false, Bool.false_eq_true, FL.R.bind, eq_self, and_self, decide_true, decide_false, Option.bind_some, Option.map_some, List.length_map, FL.wipeE, FL.backE, g, hc]
    · simp (config := { implicitDefEqProofs := false }) only [FL.lift_a, FL.eC_a, FL.eV_a, FL.eN_a, FL.eP_p, FL.rd_d, FL.rd_i, FL.rd_p, FL.toSrc_a, FL.e1_a, FL.e2_a, FL.eCmp_a, FL.eBool_a, FL.eChain_a, FL.eChain_t, FL.pure_a, FL.eTruth_a, FL.bNot_a, FL.bAnd_a, FL.bOr_a, FL.bYes_a, FL.eIf_a, FL.vAnd_a, FL.vOr_a, FL.asBool_a, FL.eNil_a, FL.eCons_a, FL.eTup_a, FL.eLst_a, FL.eL_a, FL.eIx_a, FL.eSl_a, FL.pNo_a, FL.pSo_a, FL.asInt_a, FL.sNil_a, FL.sCons_a, FL.rdA_n, FL.rdA_c, FL.eCall1_a, FL.eCallL_a, FL.eIsi_a, FL.eM1_a, FL.sSeq_a, FL.sSeqL_a, FL.sIfL_a, FL.sNx_a, FL.sBk_a, FL.sCt_a, FL.sRet_a, FL.sRetN_a, FL.sDrop_a, FL.sIf_a, FL.aN_a, FL.aNil_a, FL.aCons_a, FL.aTup_a, FL.aPool_0, FL.aPool_1, FL.aPool_2, FL.sSet_a, FL.sSetO_a, FL.sAsg_a, FL.sApp_a, FL.sExt_a, FL.ePop_a, FL.sStore_a, FL.aSub_a, FL.ownAt_a, FL.putAt_a, FL.sPar_a, FL.mNil_a, FL.mV_a, FL.mO_a, FL.setAll_c, FL.setAll_n, FL.eDm_a, FL.eCall_a, FL.eCallP_a, FL.eCallO_a, FL.eCallOP_a, FL.arrB_a, FL.iEn_a, FL.turn_a, FL.fnB_a, FL.fnL_a, FL.rep_s, FL.rep_z, FL.few_z, FL.few_1, FL.few_2, FL.few_3, FL.gAdd_i, FL.gSub_i, FL.cLt_i, FL.cLe_i, FL.cGt_i, FL.cGe_i, FL.cEq_i, FL.cNe_i, FL.cEq_str, FL.cNe_str, FL.eqv_b, FL.cEq_b, FL.truth_b, FL.truth_i, FL.truth_l, FL.truth_t, FL.gLen_l, FL.gLen_t, FL.gInt_i, FL.gTup_l, FL.gTup_t, FL.items_l, FL.items_t, FL.cIs_b, FL.gIx_l0, FL.gIx_l1, FL.gIx_l2, FL.gIx_t0, FL.gIx_t1, FL.gIx_t2, FL.cLt_n, FL.cLt_ni, FL.cLt_in, FL.cLe_n, FL.cLe_ni, FL.cLe_in, FL.cGt_n, FL.cGt_ni, FL.cGe_n, FL.cGe_ni, FL.cEq_n, FL.cEq_ni, FL.cEq_in, FL.cNe_n, FL.cNe_ni, FL.gAdd_n, FL.gAdd_ni, FL.gAdd_in, FL.gSub_ni, FL.gSub_nn, FL.gSub_in, FL.gInt_n, FL.cEq_tN, FL.cNe_tN, FL.cEq_lN, FL.sh_nilL, FL.sh_nilT, FL.gLen_tN, FL.gLen_tT, FL.gIx_tN, FL.items_tN, FL.items_tT, FL.ty_i, FL.ty_n, FL.ty_tN, FL.ty_tT, FL.kit_ii, FL.kit_ib, FL.kit_tt, FL.kit_lt, FL.same_tN, FL.same_l, FL.arr_n, FL.arr_c, List.getElem?_cons_zero, List.getElem?_cons_succ, List.set_cons_zero, List.set_cons_succ, List.length_cons, List.length_nil, List.map_cons, List.map_nil, List.cons_append, List.nil_append, Bool.not_true, Bool.not_false, if_true, if_false, Bool.false_eq_true, FL.R.bind, eq_self, and_self, decide_true, decide_false, Option.bind_some, Option.map_some, List.length_map, FL.wipeE, FL.backE, g, hc, ht]
theorem couples_ok {ls : List (List Nat)} (h : Rows ls) : ∃ cs : List (List Nat), cs.length ≤ 49 ∧ (∀ x ∈ cs, ∃ i j, x = [i, j] ∧ i < ls.length ∧ j ∈ ls.getD i []) ∧ f__law_couples [tTT ls] none = .ok (.list (cs.map tN)) none := by
  have h7 := h.hi
  have hr : iR1 (eCall1 gLen (sCons (eN 0) (sNil))) ⟨[.v (tTT ls), .v (.list []), .no, .no], none⟩ = .ok ((List.range ls.length).map nD) ⟨[.v (tTT ls), .v (.list []), .no, .no], none⟩ := iR1_n (by simp (config := { implicitDefEqProofs := false }) only [FL.lift_a, FL.eC_a, FL.eV_a, FL.eN_a, FL.eP_p, FL.rd_d, FL.rd_i, FL.rd_p, FL.toSrc_a, FL.e1_a, FL.e2_a, FL.eCmp_a, FL.eBool_a, FL.eChain_a, FL.eChain_t, FL.pure_a, FL.eTruth_a, FL.bNot_a, FL.bAnd_a, FL.bOr_a, FL.bYes_a, FL.eIf_a, FL.vAnd_a, FL.vOr_a, FL.asBool_a, FL.eNil_a, FL.eCons_a, FL.eTup_a, FL.eLst_a, FL.eL_a, FL.eIx_a, FL.eSl_a, FL.pNo_a, FL.pSo_a, FL.asInt_a, FL.sNil_a, FL.sCons_a, FL.rdA_n, FL.rdA_c, FL.eCall1_a, FL.eCallL_a, FL.eIsi_a, FL.eM1_a, FL.sSeq_a, FL.sSeqL_a, FL.sIfL_a, FL.sNx_a, FL.sBk_a, FL.sCt_a, FL.sRet_a, FL.sRetN_a, FL.sDrop_a, FL.sIf_a, FL.aN_a, FL.aNil_a, FL.aCons_a, FL.aTup_a, FL.aPool_0, FL.aPool_1, FL.aPool_2, FL.sSet_a, FL.sSetO_a, FL.sAsg_a, FL.sApp_a, FL.sExt_a, FL.ePop_a, FL.sStore_a, FL.aSub_a, FL.ownAt_a, FL.putAt_a, FL.sPar_a, FL.mNil_a, FL.mV_a, FL.mO_a, FL.setAll_c, FL.setAll_n, FL.eDm_a, FL.eCall_a, FL.eCallP_a, FL.eCallO_a, FL.eCallOP_a, FL.arrB_a, FL.iEn_a, FL.turn_a, FL.fnB_a, FL.fnL_a, FL.rep_s, FL.rep_z, FL.few_z, FL.few_1, FL.few_2, FL.few_3, FL.gAdd_i, FL.gSub_i, FL.cLt_i, FL.cLe_i, FL.cGt_i, FL.cGe_i, FL.cEq_i, FL.cNe_i, FL.cEq_str, FL.cNe_str, FL.eqv_b, FL.cEq_b, FL.truth_b, FL.truth_i, FL.truth_l, FL.truth_t, FL.gLen_l, FL.gLen_t, FL.gInt_i, FL.gTup_l, FL.gTup_t, FL.items_l, FL.items_t, FL.cIs_b, FL.gIx_l0, FL.gIx_l1, FL.gIx_l2, FL.gIx_t0, FL.gIx_t1, FL.gIx_t2, FL.cLt_n, FL.cLt_ni, FL.cLt_in, FL.cLe_n, FL.cLe_ni, FL.cLe_in, FL.cGt_n, FL.cGt_ni, FL.cGe_n, FL.cGe_ni, FL.cEq_n, FL.cEq_ni, FL.cEq_in, FL.cNe_n, FL.cNe_ni, FL.gAdd_n, FL.gAdd_ni, FL.gAdd_in, FL.gSub_ni, FL.gSub_nn, FL.gSub_in, FL.gInt_n, FL.cEq_tN, FL.cNe_tN, FL.cEq_lN, FL.sh_nilL, FL.sh_nilT, FL.gLen_tN, FL.gLen_tT, FL.gIx_tN, FL.gIx_tT, FL.items_tN, FL.items_tT, FL.ty_i, FL.ty_n, FL.ty_tN, FL.ty_tT, FL.kit_ii, FL.kit_ib, FL.kit_tt, FL.kit_lt, FL.same_tN, FL.same_l, FL.arr_n, FL.arr_c, List.getElem?_cons_zero, List.getElem?_cons_succ, List.set_cons_zero, List.set_cons_succ, List.length_cons, List.length_nil, List.map_cons, List.map_nil, List.cons_append, List.nil_append, Bool.not_true, Bool.not_false, if_true, if_false, Bool.false_eq_true, FL.R.bind, eq_self, and_self, decide_true, decide_false, Option.bind_some, Option.map_some, List.length_map, FL.wipeE, FL.backE]; rfl) (by omega)
  obtain ⟨s', h1, h2⟩ := sFor_inv (a := aN 2) (g := sSet 1 (e2 gAdd (eV 1) (eL cpC))) (fun i s => ∃ (cs : List (List Nat)) (s2 : Sl), s = ⟨[.v (tTT ls), .v (.list (cs.map tN)), s2, .no], none⟩ ∧ cs.length ≤ i * 7 ∧ ∀ x ∈ cs, ∃ i j, x = [i, j] ∧ i < ls.length ∧ j ∈ ls.getD i []) hr
    ⟨[], .no, rfl, Nat.zero_le _, fun x hx => by simp at hx⟩ (fun i d s hd hs => by
      obtain ⟨cs, s2, rfl, hl, hx⟩ := hs
      obtain ⟨hin, rfl⟩ := get_nD hd
      have hi : i < ls.length := by simpa using hin
      have e0 : (List.range ls.length)[i] = i := List.getElem_range _
      rw [e0]
      obtain ⟨c2, l2, w2, hC⟩ := cpC_ok h hi (s1 := .v (.list (cs.map tN)))
      have ha : gAdd (.list (cs.map tN)) (.list (c2.map tN)) = some (.list ((cs ++ c2).map tN)) := by
        rw [add_ll (by rw [List.length_map, List.length_map]; omega), ← List.map_append]
      have key : ∀ A : B (List D), A ⟨[.v (tTT ls), .v (.list (cs.map tN)), .v (nD i), .no], none⟩ = .ok (c2.map tN) ⟨[.v (tTT ls), .v (.list (cs.map tN)), .v (nD i), .no], none⟩ → sSet 1 (e2 gAdd (eV 1) (eL A)) ⟨[.v (tTT ls), .v (.list (cs.map tN)), .v (nD i), .no], none⟩ = .ok .nx ⟨[.v (tTT ls), .v (.list ((cs ++ c2).map tN)), .v (nD i), .no], none⟩ := by
        intro A hA
        generalize (cs ++ c2).map tN = fin at ha ⊢
        simp (config := { implicitDefEqProofs := false }) only [FL.lift_a, FL.eC_a, FL.eV_a, FL.eN_a, FL.eP_p, FL.rd_d, FL.rd_i, FL.rd_p, FL.toSrc_a, FL.e1_a, FL.e2_a, FL.eCmp_a, FL.eBool_a, FL.eChain_a, FL.eChain_t, FL.pure_a, FL.eTruth_a, FL.bNot_a, FL.bAnd_a, FL.bOr_a, FL.bYes_a, FL.eIf_a, FL.vAnd_a, FL.vOr_a, FL.asBool_a, FL.eNil_a, FL.eCons_a, FL.eTup_a, FL.eLst_a, FL.eL_a, FL.eIx_a, FL.eSl_a, FL.pNo_a, FL.pSo_a, FL.asInt_a, FL.sNil_a, FL.sCons_a, FL.rdA_n, FL.rdA_c, FL.eCall1_a, FL.eCallL_a, FL.eIsi_a, FL.eM1_a, FL.sSeq_a, FL.sSeqL_a, FL.sIfL_a, FL.sNx_a, FL.sBk_a, FL.sCt_a, FL.sRet_a, FL.sRetN_a, FL.sDrop_a, FL.sIf_a, FL.aN_a, FL.aNil_a, FL.aCons_a, FL.aTup_a, FL.aPool_0, FL.aPool_1, FL.aPool_2, FL.sSet_a, FL.sSetO_a, FL.sAsg_a, FL.sApp_a, FL.sExt_a, FL.ePop_a, FL.sStore_a, FL.aSub_a, FL.ownAt_a, FL.putAt_a, FL.sPar_a, FL.mNil_a, FL.mV_a, FL.mO_a, FL.setAll_c, FL.setAll_n, FL.eDm_a, FL.eCall_a, FL.eCallP_a, FL.eCallO_a, FL.eCallOP_a, FL.arrB_a, FL.iEn_a, FL.turn_a, FL.fnB_a, FL.fnL_a, FL.rep_s, FL.rep_z, FL.few_z, FL.few_1, FL.few_2, FL.few_3, FL.gAdd_i, FL.gSub_i, FL.cLt_i, FL.cLe_i, FL.cGt_i, FL.cGe_i, FL.cEq_i, FL.cNe_i, FL.cEq_str, FL.cNe_str, FL.eqv_b, FL.cEq_b, FL.truth_b, FL.truth_i, FL.truth_l, FL.truth_t, FL.gLen_l, FL.gLen_t, FL.gInt_i, FL.gTup_l, FL.gTup_t, FL.items_l, FL.items_t, FL.cIs_b, FL.gIx_l0, FL.gIx_l1, FL.gIx_l2, FL.gIx_t0, FL.gIx_t1, FL.gIx_t2, FL.cLt_n, FL.cLt_ni, FL.cLt_in, FL.cLe_n, FL.cLe_ni, FL.cLe_in, FL.cGt_n, FL.cGt_ni, FL.cGe_n, FL.cGe_ni, FL.cEq_n, FL.cEq_ni, FL.cEq_in, FL.cNe_n, FL.cNe_ni, FL.gAdd_n, FL.gAdd_ni, FL.gAdd_in, FL.gSub_ni, FL.gSub_nn, FL.gSub_in, FL.gInt_n, FL.cEq_tN, FL.cNe_tN, FL.cEq_lN, FL.sh_nilL, FL.sh_nilT, FL.gLen_tN, FL.gLen_tT, FL.gIx_tN, FL.gIx_tT, FL.items_tN, FL.items_tT, FL.ty_i, FL.ty_n, FL.ty_tN, FL.ty_tT, FL.kit_ii, FL.kit_ib, FL.kit_tt, FL.kit_lt, FL.same_tN, FL.same_l, FL.arr_n, FL.arr_c, List.getElem?_cons_zero, List.getElem?_cons_succ, List.set_cons_zero, List.set_cons_succ, List.length_cons, List.length_nil, List.map_cons, List.map_nil, List.cons_append, List.nil_append, Bool.not_true, Bool.not_false, if_true, if_false, Bool.false_eq_true, FL.R.bind, eq_self, and_self, decide_true, decide_false, Option.bind_some, Option.map_some, List.length_map, FL.wipeE, FL.backE, hA, ha]
      refine ⟨_, _, rfl, .inl (key _ hC), cs ++ c2, _, rfl, by rw [List.length_append]; omega, fun x hxm => ?_⟩
      rcases List.mem_append.mp hxm with hxm | hxm
      · exact hx x hxm
      · obtain ⟨j, e, hj⟩ := w2 x hxm
        exact ⟨i, j, e, hi, hj⟩)
  obtain ⟨cs, s2, rfl, hl, hx⟩ := h2
  rw [List.length_map, List.length_range] at hl
  refine ⟨cs, by omega, hx, ?_⟩
  have key : ∀ L : B Fl, L ⟨[.v (tTT ls), .v (.list []), .no, .no], none⟩ = .ok .nx ⟨[.v (tTT ls), .v (.list (cs.map tN)), s2, .no], none⟩ → fnB 1 4 (sSeq (sSet 1 (eL (eLst (eNil)))) (sSeq L (sRet (eV 1)))) [tTT ls] none = .ok (.list (cs.map tN)) none := by
    intro L hL
    simp (config := { implicitDefEqProofs := false }) only [FL.lift_a, FL.eC_a, FL.eV_a, FL.eN_a, FL.eP_p, FL.rd_d, FL.rd_i, FL.rd_p, FL.toSrc_a, FL.e1_a, FL.e2_a, FL.eCmp_a, FL.eBool_a, FL.eChain_a, FL.eChain_t, FL.pure_a, FL.eTruth_a, FL.bNot_a, FL.bAnd_a, FL.bOr_a, FL.bYes_a, FL.eIf_a, FL.vAnd_a, FL.vOr_a, FL.asBool_a, FL.eNil_a, FL.eCons_a, FL.eTup_a, FL.eLst_a, FL.eL_a, FL.eIx_a, FL.eSl_a, FL.pNo_a, FL.pSo_a, FL.asInt_a, FL.sNil_a, FL.sCons_a, FL.rdA_n, FL.rdA_c, FL.eCall1_a, FL.eCallL_a, FL.eIsi_a, FL.eM1_a, FL.sSeq_a, FL.sSeqL_a, FL.sIfL_a, FL.sNx_a, FL.sBk_a, FL.sCt_a, FL.sRet_a, FL.sRetN_a, FL.sDrop_a, FL.sIf_a, FL.aN_a, FL.aNil_a, FL.aCons_a, FL.aTup_a, FL.aPool_0, FL.aPool_1, FL.aPool_2, FL.sSet_a, FL.sSetO_a, FL.sAsg_a, FL.sApp_a, FL.sExt_a, FL.ePop_a, FL.sStore_a, FL.aSub_a, FL.ownAt_a, FL.putAt_a, FL.sPar_a, FL.mNil_a, FL.mV_a, FL.mO_a, FL.setAll_c, FL.setAll_n, FL.eDm_a, FL.eCall_a, FL.eCallP_a, FL.eCallO_a, FL.eCallOP_a, FL.arrB_a, FL.iEn_a, FL.turn_a, FL.fnB_a, FL.fnL_a, FL.rep_s, FL.rep_z, FL.few_z, FL.few_1, FL.few_2, FL.few_3, FL.gAdd_i, FL.gSub_i, FL.cLt_i, FL.cLe_i, FL.cGt_i, FL.cGe_i, FL.cEq_i, FL.cNe_i, FL.cEq_str, FL.cNe_str, FL.eqv_b, FL.cEq_b, FL.truth_b, FL.truth_i, FL.truth_l, FL.truth_t, FL.gLen_l, FL.gLen_t, FL.gInt_i, FL.gTup_l, FL.gTup_t, FL.items_l, FL.items_t, FL.cIs_b, FL.gIx_l0, FL.gIx_l1, FL.gIx_l2, FL.gIx_t0, FL.gIx_t1, FL.gIx_t2, FL.cLt_n, FL.cLt_ni, FL.cLt_in, FL.cLe_n, FL.cLe_ni, FL.cLe_in, FL.cGt_n, FL.cGt_ni, FL.cGe_n, FL.cGe_ni, FL.cEq_n, FL.cEq_ni, FL.cEq_in, FL.cNe_n, FL.cNe_ni, FL.gAdd_n, FL.gAdd_ni, FL.gAdd_in, FL.gSub_ni, FL.gSub_nn, FL.gSub_in, FL.gInt_n, FL.cEq_tN, FL.cNe_tN, FL.cEq_lN, FL.sh_nilL, FL.sh_nilT, FL.gLen_tN, FL.gLen_tT, FL.gIx_tN, FL.gIx_tT, FL.items_tN, FL.items_tT, FL.ty_i, FL.ty_n, FL.ty_tN, FL.ty_tT, FL.kit_ii, FL.kit_ib, FL.kit_tt, FL.kit_lt, FL.same_tN, FL.same_l, FL.arr_n, FL.arr_c, List.getElem?_cons_zero, List.getElem?_cons_succ, List.set_cons_zero, List.set_cons_succ, List.length_cons, List.length_nil, List.map_cons, List.map_nil, List.cons_append, List.nil_append, Bool.not_true, Bool.not_false, if_true, if_false, Bool.false_eq_true, FL.R.bind, eq_self, and_self, decide_true, decide_false, Option.bind_some, Option.map_some, List.length_map, FL.wipeE, FL.backE, hL]
  exact key _ h1
theorem pick_ok {cs : List (List Nat)} {q : List Int} (hne : cs ≠ []) (hl : cs.length ≤ 1000) (hq : PoolOk q) : ∃ c q', c ∈ cs ∧ PoolOk q' ∧ f__law_pick [poolD, .list (cs.map tN)] (some q) = .ok (tN c) (some q') := by
  have hpos : 0 < cs.length := List.length_pos_iff.mpr hne
  obtain ⟨k, q', hk, hq', hd⟩ := draw_nat (m := cs.length) hq hpos (by omega)
  refine ⟨cs[k], q', List.getElem_mem hk, hq', ?_⟩
  have hlen : gLen [.list (cs.map tN)] = some (nD cs.length) := by simp [gLen, nD]
  have g : gIx (.list (cs.map tN)) (nD k) = some (tN cs[k]) := by
    rw [gIx_l, List.getElem?_map, List.getElem?_eq_getElem hk]
    rfl
  have key : ∀ F : Fn, F [poolD, nD cs.length] (some q) = .ok (nD k) (some q') → fnB 2 2 (sRet (eIx (eN 1) (eCallP F (eCons (eV 0) (eCons (eCall1 gLen (sCons (eN 1) (sNil))) (eNil)))))) [poolD, .list (cs.map tN)] (some q) = .ok (tN cs[k]) (some q') := by
    intro F hF
    simp (config := { implicitDefEqProofs := false }) only [FL.lift_a, FL.eC_a, FL.eV_a, FL.eN_a, FL.eP_p, FL.rd_d, FL.rd_i, FL.rd_p, FL.toSrc_a, FL.e1_a, FL.e2_a, FL.eCmp_a, FL.eBool_a, FL.eChain_a, FL.eChain_t, FL.pure_a, FL.eTruth_a, FL.bNot_a, FL.bAnd_a, FL.bOr_a, FL.bYes_a, FL.eIf_a, FL.vAnd_a, FL.vOr_a, FL.asBool_a, FL.eNil_a, FL.eCons_a, FL.eTup_a, FL.eLst_a, FL.eL_a, FL.eIx_a, FL.eSl_a, FL.pNo_a, FL.pSo_a, FL.asInt_a, FL.sNil_a, FL.sCons_a, FL.rdA_n, FL.rdA_c, FL.eCall1_a, FL.eCallL_a, FL.eIsi_a, FL.eM1_a, FL.sSeq_a, FL.sSeqL_a, FL.sIfL_a, FL.sNx_a, FL.sBk_a, FL.sCt_a, FL.sRet_a, FL.sRetN_a, FL.sDrop_a, FL.sIf_a, FL.aN_a, FL.aNil_a, FL.aCons_a, FL.aTup_a, FL.aPool_0, FL.aPool_1, FL.aPool_2, FL.sSet_a, FL.sSetO_a, FL.sAsg_a, FL.sApp_a, FL.sExt_a, FL.ePop_a, FL.sStore_a, FL.aSub_a, FL.ownAt_a, FL.putAt_a, FL.sPar_a, FL.mNil_a, FL.mV_a, FL.mO_a, FL.setAll_c, FL.setAll_n, FL.eDm_a, FL.eCall_a, FL.eCallP_a, FL.eCallO_a, FL.eCallOP_a, FL.arrB_a, FL.iEn_a, FL.turn_a, FL.fnB_a, FL.fnL_a, FL.rep_s, FL.rep_z, FL.few_z, FL.few_1, FL.few_2, FL.few_3, FL.gAdd_i, FL.gSub_i, FL.cLt_i, FL.cLe_i, FL.cGt_i, FL.cGe_i, FL.cEq_i, FL.cNe_i, FL.cEq_str, FL.cNe_str, FL.eqv_b, FL.cEq_b, FL.truth_b, FL.truth_i, FL.truth_l, FL.truth_t, FL.gLen_t, FL.gInt_i, FL.gTup_l, FL.gTup_t, FL.items_l, FL.items_t, FL.cIs_b, FL.gIx_t0, FL.gIx_t1, FL.gIx_t2, FL.cLt_n, FL.cLt_ni, FL.cLt_in, FL.cLe_n, FL.cLe_ni, FL.cLe_in, FL.cGt_n, FL.cGt_ni, FL.cGe_n, FL.cGe_ni, FL.cEq_n, FL.cEq_ni, FL.cEq_in, FL.cNe_n, FL.cNe_ni, FL.gAdd_n, FL.gAdd_ni, FL.gAdd_in, FL.gSub_ni, FL.gSub_nn, FL.gSub_in, FL.gInt_n, FL.cEq_tN, FL.cNe_tN, FL.cEq_lN, FL.sh_nilL, FL.sh_nilT, FL.gLen_tN, FL.gLen_tT, FL.gIx_tN, FL.gIx_tT, FL.items_tN, FL.items_tT, FL.ty_i, FL.ty_n, FL.ty_tN, FL.ty_tT, FL.kit_ii, FL.kit_ib, FL.kit_tt, FL.kit_lt, FL.same_tN, FL.same_l, FL.arr_n, FL.arr_c, List.getElem?_cons_zero, List.getElem?_cons_succ, List.set_cons_zero, List.set_cons_succ, List.length_cons, List.length_nil, List.map_cons, List.map_nil, List.cons_append, List.nil_append, Bool.not_true, Bool.not_false, if_true, if_false, Bool.false_eq_true, FL.R.bind, eq_self, and_self, decide_true, decide_false, Option.bind_some, Option.map_some, List.length_map, FL.wipeE, FL.backE, hlen, hF, g]
  exact key _ hd
/-! ### a row set -/
theorem putD_set {ls : List (List Nat)} {i : Nat} (hi : i < ls.length) (r : List Nat) : putD (ls.map tN) i (tN r) = (ls.set i r).map tN := by
  unfold putD
  rw [List.set_eq_take_append_cons_drop, if_pos hi, List.map_append, List.map_cons, List.map_take, List.map_drop, List.append_assoc]
  rfl
theorem set_getD {ls : List (List Nat)} {i k : Nat} (hi : i < ls.length) (r : List Nat) : (ls.set i r).getD k [] = if k = i then r else ls.getD k [] := by
  rw [List.getD_eq_getElem?_getD, List.getElem?_set]
  by_cases h : i = k
  · subst h
    simp [hi]
  · rw [if_neg h, if_neg (fun e => h e.symm), List.getD_eq_getElem?_getD]
theorem bare_not {n : Nat} {ls : List (List Nat)} (h : BkOk n ls) {i j : Nat} (hi : i < n) (hj : j ∈ ls.getD i []) : ¬ isBk (tTT (ls.set i ((ls.getD i []).filter fun x => !decide (x = j)))) := by
  rintro ⟨ls', e, hb⟩
  have e := tTT_inj e
  subst e
  have hl := h.len
  have hj' := h.inn i hi j hj
  have hs := h.sym i hi j hj
  have e1 : (ls.set i ((ls.getD i []).filter fun x => !decide (x = j))).getD j [] = ls.getD j [] := by rw [set_getD (by omega), if_neg hj'.2]
  have e2 : (ls.set i ((ls.getD i []).filter fun x => !decide (x = j))).getD i [] = (ls.getD i []).filter fun x => !decide (x = j) := by rw [set_getD (by omega), if_pos rfl]
  have := hb.sym j (by rw [List.length_set]; omega) i (by rw [e1]; exact hs)
  rw [e2] at this
  have := (List.mem_filter.mp this).2
  simp at this
theorem both_bk {n : Nat} {ls : List (List Nat)} (h : BkOk n ls) {i j : Nat} (hi : i < n) (hj : j ∈ ls.getD i []) : isBk (tTT ((ls.set i ((ls.getD i []).filter fun x => !decide (x = j))).set j ((ls.getD j []).filter fun x => !decide (x = i)))) := by
  have hl := h.len
  have hj' := h.inn i hi j hj
  have g : ∀ k, ((ls.set i ((ls.getD i []).filter fun x => !decide (x = j))).set j ((ls.getD j []).filter fun x => !decide (x = i))).getD k [] = if k = j then (ls.getD j []).filter (fun x => !decide (x = i)) else if k = i then (ls.getD i []).filter (fun x => !decide (x = j)) else ls.getD k [] := by
    intro k
    rw [set_getD (by rw [List.length_set]; omega), set_getD (by omega)]
  have mem : ∀ k x, x ∈ ((ls.set i ((ls.getD i []).filter fun x => !decide (x = j))).set j ((ls.getD j []).filter fun x => !decide (x = i))).getD k [] ↔ x ∈ ls.getD k [] ∧ ¬ (k = j ∧ x = i) ∧ ¬ (k = i ∧ x = j) := by
    intro k x
    rw [g]
    by_cases c1 : k = j
    · subst c1
      rw [if_pos rfl, List.mem_filter]
      have : k ≠ i := hj'.2
      simp [this]
    · rw [if_neg c1]
      by_cases c2 : k = i
      · subst c2
        rw [if_pos rfl, List.mem_filter]
        simp [c1]
      · rw [if_neg c2]
        simp [c1, c2]
  refine ⟨_, rfl, by simp, by rw [List.length_set, List.length_set]; omega, by rw [List.length_set, List.length_set]; have := h.hi; omega, fun k hk => ?_, fun k hk x hx => ?_, fun k hk x hx => ?_⟩
  · rw [List.length_set, List.length_set, hl] at hk
    rw [g]
    split
    · exact (h.nd j hj'.1).filter _
    · split
      · exact (h.nd i hi).filter _
      · exact h.nd k hk
  · rw [List.length_set, List.length_set, hl] at hk ⊢
    exact h.inn k hk x ((mem k x).mp hx).1
  · rw [List.length_set, List.length_set, hl] at hk
    obtain ⟨h1, h2, h3⟩ := (mem k x).mp hx
    exact (mem x k).mpr ⟨h.sym k hk x h1, fun e => h3 ⟨e.2, e.1⟩, fun e => h2 ⟨e.2, e.1⟩⟩
theorem bk_perm {n : Nat} {ls ms : List (List Nat)} (h : BkOk n ls) (hl : ms.length = n) (hp : ∀ i, i < n → (ms.getD i []).Perm (ls.getD i [])) : BkOk n ms :=
  ⟨hl, h.lo, h.hi, fun i hi => (hp i hi).nodup_iff.mpr (h.nd i hi), fun i hi x hx => h.inn i hi x ((hp i hi).mem_iff.mp hx), fun i hi x hx => (hp x (h.inn i hi x ((hp i hi).mem_iff.mp hx)).1).mem_iff.mpr (h.sym i hi x ((hp i hi).mem_iff.mp hx))⟩
theorem bk_val {n : Nat} {ls : List (List Nat)} (h : BkOk n ls) : Val (tTT ls) := val_tup (by rw [List.length_map, h.len]; have := h.hi; omega) h.rowCs
theorem book_true {n : Nat} {ls : List (List Nat)} (h : BkOk n ls) : f_is_book [tTT ls] none = .ok (.bool true) none := by
  obtain ⟨b, h1, h2⟩ := is_book_ok (bk_val h)
  have : b = true := h2.mpr ⟨ls, rfl, by rw [h.len]; exact h⟩
  rw [h1, this]
end M
set_option maxHeartbeats 4000000
/-! k03: the law. -/
namespace M
open PySem PySem.Spec PyProof.Rows L2 FL
abbrev RS (s1 s2 s4 s5 s6 s7 s8 s9 s11 : Sl) (q : List Int) : S := ⟨[.v poolD, s1, s2, .no, s4, s5, s6, s7, s8, s9, .no, s11, .no], some q⟩
abbrev mxC (G : Fn) : B (List D) := eLc (iItems (eV 2)) [3] (aN 3) (bYes) (eCall1 gTupOf (sCons (toSrc (eCallP G (eCons (eV 0) (eCons (eV 3) (eNil))))) (sNil)))
theorem mxC_ok {n : Nat} {ls : List (List Nat)} {s1 s4 s5 s6 s7 s8 s9 s11 : Sl} {q : List Int} (h : BkOk n ls) (hq : PoolOk q) : ∃ (ms : List (List Nat)) (q' : List Int), BkOk n ms ∧ PoolOk q' ∧ mxC f__law_mixed (RS s1 (.v (tTT ls)) s4 s5 s6 s7 s8 s9 s11 q) = .ok (ms.map tN) (RS s1 (.v (tTT ls)) s4 s5 s6 s7 s8 s9 s11 q') := by
  have h7 := h.hi
  have hl := h.len
  have hf : iItems (eV 2) (RS s1 (.v (tTT ls)) s4 s5 s6 s7 s8 s9 s11 q) = .ok (ls.map tN) (RS s1 (.v (tTT ls)) s4 s5 s6 s7 s8 s9 s11 q) := iItems_t rfl
  obtain ⟨ys, p', e1, e2⟩ := eLc_inv (own := [3]) (a := aN 3) (c := bYes) (g := eCall1 gTupOf (sCons (toSrc (eCallP f__law_mixed (eCons (eV 0) (eCons (eV 3) (eNil))))) (sNil)))
    (fun i acc p => ∃ (ms : List (List Nat)) (q : List Int), p = some q ∧ acc = ms.map tN ∧ PoolOk q ∧ ms.length = i ∧ ∀ j, j < i → (ms.getD j []).Perm (ls.getD j [])) hf ⟨[], q, rfl, rfl, hq, rfl, fun j hj => by omega⟩ (fun i d acc p hd hi => by
      obtain ⟨ms, q, rfl, rfl, hq, hm, hp⟩ := hi
      rw [List.getElem?_map] at hd
      obtain ⟨l, g1, rfl⟩ := Option.map_eq_some_iff.mp hd
      have hil : i < ls.length := (List.getElem?_eq_some_iff.mp g1).1
      have el : ls.getD i [] = l := by rw [List.getD_eq_getElem?_getD, g1]; rfl
      obtain ⟨p, q', hpp, hq', hG⟩ := mixed_ok (src := tN l) (l := l) rfl (by have := h.rlen l (List.mem_of_getElem? g1); omega) hq
      have hT : gTupOf [.list (p.map nD)] = some (tN p) := rfl
      have key : ∀ G : Fn, G [poolD, tN l] (some q) = .ok (.list (p.map nD)) (some q') → turnB (aN 3) bYes (eCall1 gTupOf (sCons (toSrc (eCallP G (eCons (eV 0) (eCons (eV 3) (eNil))))) (sNil))) (tN l) ⟨wipeE [.v poolD, s1, .v (tTT ls), .no, s4, s5, s6, s7, s8, s9, .no, s11, .no] [3], some q⟩ = .ok (some (tN p)) ⟨[.v poolD, s1, .v (tTT ls), .v (tN l), s4, s5, s6, s7, s8, s9, .no, s11, .no], some q'⟩ := by
        intro G hG
        simp (config := { implicitDefEqProofs := false }) only [FL.lift_a, FL.eC_a, FL.eV_a, FL.eN_a, FL.eP_p, FL.rd_d, FL.rd_i, FL.rd_p, FL.toSrc_a, FL.e1_a, FL.e2_a, FL.eCmp_a, FL.eBool_a, FL.eChain_a, FL.eChain_t, FL.pure_a, FL.eTruth_a, FL.bNot_a, FL.bAnd_a, FL.bOr_a, FL.bYes_a, FL.eIf_a, FL.vAnd_a, FL.vOr_a, FL.asBool_a, FL.eNil_a, FL.eCons_a, FL.eTup_a, FL.eLst_a, FL.eL_a, FL.eIx_a, FL.eSl_a, FL.pNo_a, FL.pSo_a, FL.asInt_a, FL.sNil_a, FL.sCons_a, FL.rdA_n, FL.rdA_c, FL.eCall1_a, FL.eCallL_a, FL.eIsi_a, FL.eM1_a, FL.sSeq_a, FL.sSeqL_a, FL.sIfL_a, FL.sNx_a, FL.sBk_a, FL.sCt_a, FL.sRet_a, FL.sRetN_a, FL.sDrop_a, FL.sIf_a, FL.aN_a, FL.aNil_a, FL.aCons_a, FL.aTup_a, FL.aPool_0, FL.aPool_1, FL.aPool_2, FL.sSet_a, FL.sSetO_a, FL.sAsg_a, FL.sApp_a, FL.sExt_a, FL.ePop_a, FL.sStore_a, FL.aSub_a, FL.ownAt_a, FL.putAt_a, FL.sPar_a, FL.mNil_a, FL.mV_a, FL.mO_a, FL.setAll_c, FL.setAll_n, FL.eDm_a, FL.eCall_a, FL.eCallP_a, FL.eCallO_a, FL.eCallOP_a, FL.arrB_a, FL.iEn_a, FL.turn_a, FL.fnB_a, FL.fnL_a, FL.rep_s, FL.rep_z, FL.few_z, FL.few_1, FL.few_2, FL.few_3, FL.gAdd_i, FL.gSub_i, FL.cLt_i, FL.cLe_i, FL.cGt_i, FL.cGe_i, FL.cEq_i, FL.cNe_i, FL.cEq_str, FL.cNe_str, FL.eqv_b, FL.cEq_b, FL.truth_b, FL.truth_i, FL.truth_l, FL.truth_t, FL.gLen_l, FL.gLen_t, FL.gInt_i, FL.gTup_t, FL.items_l, FL.items_t, FL.cIs_b, FL.gIx_l0, FL.gIx_l1, FL.gIx_l2, FL.gIx_t0, FL.gIx_t1, FL.gIx_t2, FL.cLt_n, FL.cLt_ni, FL.cLt_in, FL.cLe_n, FL.cLe_ni, FL.cLe_in, FL.cGt_n, FL.cGt_ni, FL.cGe_n, FL.cGe_ni, FL.cEq_n, FL.cEq_ni, FL.cEq_in, FL.cNe_n, FL.cNe_ni, FL.gAdd_n, FL.gAdd_ni, FL.gAdd_in, FL.gSub_ni, FL.gSub_nn, FL.gSub_in, FL.gInt_n, FL.cEq_tN, FL.cNe_tN, FL.cEq_lN, FL.sh_nilL, FL.sh_nilT, FL.gLen_tN, FL.gLen_tT, FL.gIx_tN, FL.gIx_tT, FL.items_tN, FL.items_tT, FL.ty_i, FL.ty_n, FL.ty_tN, FL.ty_tT, FL.kit_ii, FL.kit_ib, FL.kit_tt, FL.kit_lt, FL.same_tN, FL.same_l, FL.arr_n, FL.arr_c, List.getElem?_cons_zero, List.getElem?_cons_succ, List.set_cons_zero, List.set_cons_succ, List.length_cons, List.length_nil, List.map_cons, List.map_nil, List.cons_append, List.nil_append, Bool.not_true, Bool.not_false, if_true, if_false, Bool.false_eq_true, FL.R.bind, eq_self, and_self, decide_true, decide_false, Option.bind_some, Option.map_some, List.length_map, FL.wipeE, FL.backE, hG, hT]
      refine ⟨some (tN p), _, key _ hG, rfl, rfl, ms ++ [p], q', rfl, by simp, hq', by simp [hm], fun j hj => ?_⟩
      by_cases e : j = i
      · subst e
        rw [List.getD_eq_getElem?_getD, List.getElem?_append_right (by omega), hm, Nat.sub_self, el]
        exact hpp
      · rw [List.getD_eq_getElem?_getD, List.getElem?_append_left (by omega), ← List.getD_eq_getElem?_getD]
        exact hp j (by omega)) (fun ys p hi => by
      obtain ⟨ms, q, rfl, rfl, hq, hm, hp⟩ := hi
      rw [List.length_map, hm, List.length_map, sizeLine_eq]
      omega)
  obtain ⟨ms, q', rfl, rfl, hq', hm, hp⟩ := e2
  rw [List.length_map] at hm hp
  exact ⟨ms, q', bk_perm h (by omega) (fun i hi => hp i (by omega)), hq', e1⟩
abbrev rvC : B (List D) := eLc (iItems (eV 2)) [3] (aN 3) (bYes) (eRev (eN 3))
theorem rvC_ok {n : Nat} {ls : List (List Nat)} {s1 s4 s5 s6 s7 s8 s9 s11 : Sl} {q : List Int} (h : BkOk n ls) : rvC (RS s1 (.v (tTT ls)) s4 s5 s6 s7 s8 s9 s11 q) = .ok ((ls.map List.reverse).map tN) (RS s1 (.v (tTT ls)) s4 s5 s6 s7 s8 s9 s11 q) ∧ BkOk n (ls.map List.reverse) := by
  have h7 := h.hi
  have hl := h.len
  refine ⟨?_, bk_perm h (by simp [hl]) fun i hi => ?_⟩
  · have e1 : (ls.map List.reverse).map tN = ls.filterMap fun l => some (tN l.reverse) := by
      rw [List.map_map, ← List.filterMap_eq_map]
      rfl
    rw [e1]
    refine eLc_filterA tN _ _ (iItems_t rfl) (fun l hlm => ⟨[.v poolD, s1, .v (tTT ls), .v (tN l), s4, s5, s6, s7, s8, s9, .no, s11, .no], ?_, rfl⟩) (by rw [sizeLine_eq]; omega)
    have hv : gRev (tN l) = some (tN l.reverse) := by
      show some (PyData.tuple (l.map nD).reverse) = some (PyData.tuple (l.reverse.map nD))
      rw [List.map_reverse]
    simp (config := { implicitDefEqProofs := false }) only [FL.lift_a, FL.eC_a, FL.eV_a, FL.eN_a, FL.eP_p, FL.rd_d, FL.rd_i, FL.rd_p, FL.toSrc_a, FL.e1_a, FL.e2_a, FL.eCmp_a, FL.eBool_a, FL.eChain_a, FL.eChain_t, FL.pure_a, FL.eTruth_a, FL.bNot_a, FL.bAnd_a, FL.bOr_a, FL.bYes_a, FL.eIf_a, FL.vAnd_a, FL.vOr_a, FL.asBool_a, FL.eNil_a, FL.eCons_a, FL.eTup_a, FL.eLst_a, FL.eL_a, FL.eIx_a, FL.eSl_a, FL.pNo_a, FL.pSo_a, FL.asInt_a, FL.sNil_a, FL.sCons_a, FL.rdA_n, FL.rdA_c, FL.eCall1_a, FL.eCallL_a, FL.eIsi_a, FL.eM1_a, FL.sSeq_a, FL.sSeqL_a, FL.sIfL_a, FL.sNx_a, FL.sBk_a, FL.sCt_a, FL.sRet_a, FL.sRetN_a, FL.sDrop_a, FL.sIf_a, FL.aN_a, FL.aNil_a, FL.aCons_a, FL.aTup_a, FL.aPool_0, FL.aPool_1, FL.aPool_2, FL.sSet_a, FL.sSetO_a, FL.sAsg_a, FL.sApp_a, FL.sExt_a, FL.ePop_a, FL.sStore_a, FL.aSub_a, FL.ownAt_a, FL.putAt_a, FL.sPar_a, FL.mNil_a, FL.mV_a, FL.mO_a, FL.setAll_c, FL.setAll_n, FL.eDm_a, FL.eCall_a, FL.eCallP_a, FL.eCallO_a, FL.eCallOP_a, FL.arrB_a, FL.iEn_a, FL.turn_a, FL.fnB_a, FL.fnL_a, FL.rep_s, FL.rep_z, FL.few_z, FL.few_1, FL.few_2, FL.few_3, FL.gAdd_i, FL.gSub_i, FL.cLt_i, FL.cLe_i, FL.cGt_i, FL.cGe_i, FL.cEq_i, FL.cNe_i, FL.cEq_str, FL.cNe_str, FL.eqv_b, FL.cEq_b, FL.truth_b, FL.truth_i, FL.truth_l, FL.truth_t, FL.gLen_l, FL.gLen_t, FL.gInt_i, FL.gTup_l, FL.gTup_t, FL.items_l, FL.items_t, FL.cIs_b, FL.gIx_l0, FL.gIx_l1, FL.gIx_l2, FL.gIx_t0, FL.gIx_t1, FL.gIx_t2, FL.cLt_n, FL.cLt_ni, FL.cLt_in, FL.cLe_n, FL.cLe_ni, FL.cLe_in, FL.cGt_n, FL.cGt_ni, FL.cGe_n, FL.cGe_ni, FL.cEq_n, FL.cEq_ni, FL.cEq_in, FL.cNe_n, FL.cNe_ni, FL.gAdd_n, FL.gAdd_ni, FL.gAdd_in, FL.gSub_ni, FL.gSub_nn, FL.gSub_in, FL.gInt_n, FL.cEq_tN, FL.cNe_tN, FL.cEq_lN, FL.sh_nilL, FL.sh_nilT, FL.gLen_tN, FL.gLen_tT, FL.gIx_tN, FL.gIx_tT, FL.items_tN, FL.items_tT, FL.ty_i, FL.ty_n, FL.ty_tN, FL.ty_tT, FL.kit_ii, FL.kit_ib, FL.kit_tt, FL.kit_lt, FL.same_tN, FL.same_l, FL.arr_n, FL.arr_c, List.getElem?_cons_zero, List.getElem?_cons_succ, List.set_cons_zero, List.set_cons_succ, List.length_cons, List.length_nil, List.map_cons, List.map_nil, List.cons_append, List.nil_append, Bool.not_true, Bool.not_false, if_true, if_false, Bool.false_eq_true, FL.R.bind, eq_self, and_self, decide_true, decide_false, Option.bind_some, Option.map_some, List.length_map, FL.wipeE, FL.backE, eRev_a, hv]
  · have e : (ls.map List.reverse).getD i [] = (ls.getD i []).reverse := by
      rw [List.getD_eq_getElem?_getD, List.getElem?_map, List.getElem?_eq_getElem (by omega), List.getD_eq_getElem?_getD, List.getElem?_eq_getElem (by omega)]
      rfl
    rw [e]
    exact List.reverse_perm _
abbrev vBody (F I T W : Fn) : B Fl := sSeq (sSet 5 (eIf (eCmp cEq (toSrc (eCallP F (eCons (eV 0) (eCons (eC (.int 4)) (eNil))))) (toSrc (eC (.int 0)))) (eCall I (arrB 0 1 [0] (eNil) (eCons (eV 4) (eNil)))) (eCall I (eCons (eV 4) (eNil))))) (sIf (bNot (eTruth (toSrc (eCall T (eCons (eV 5) (eCons (eBool (eCmp cEq (toSrc (eCall W (eCons (eV 4) (eNil)))) (toSrc (eL (eLst (eNil)))))) (eNil))))))) (sRet (eC (.bool false))) (sNx))
theorem tells_ok (b : Bool) : f__law_tells [.bool b, .bool b] none = .ok (.bool true) none := by cases b <;> rfl
theorem vBody_ok {v : D} {s1 s2 s5 s6 s7 s8 s9 s11 : Sl} {q : List Int} (hv : Val v) (hq : PoolOk q) : ∃ (b : Bool) (q' : List Int), PoolOk q' ∧ vBody f__law_draw f_is_book f__law_tells f__law_wrong_book (RS s1 s2 (.v v) s5 s6 s7 s8 s9 s11 q) = .ok .nx (RS s1 s2 (.v v) (.v (.bool b)) s6 s7 s8 s9 s11 q') := by
  obtain ⟨b, hb, hb2⟩ := is_book_ok hv
  obtain ⟨zs, hs, hw, hw2⟩ := law_wrong_ok hv
  obtain ⟨t, q', _, hq', hd⟩ := draw_nat (m := 4) hq (by omega) (by omega)
  have hc := cEq_nil hs
  have e : zs.isEmpty = b := by
    rw [Bool.eq_iff_iff, hb2, ← hw2]
    simp
  rw [e] at hc
  refine ⟨b, q', hq', ?_⟩
  have h4 : cEq (nD t) (.int 0) = some (decide ((t : Int) = 0)) := cEq_ni
  have key : ∀ (F I T W : Fn) (c : Bool), F [poolD, .int 4] (some q) = .ok (nD t) (some q') → I [v] none = .ok (.bool b) none → T [.bool b, .bool b] none = .ok (.bool true) none → W [v] none = .ok (.list zs) none → cEq (nD t) (.int 0) = some c → vBody F I T W (RS s1 s2 (.v v) s5 s6 s7 s8 s9 s11 q) = .ok .nx (RS s1 s2 (.v v) (.v (.bool b)) s6 s7 s8 s9 s11 q') := by
    intro F I T W c g1 g2 g3 g4 g5
    cases c <;> simp (config := { implicitDefEqProofs := false }) only [vBody, RS, FL.lift_a, FL.eC_a, FL.eV_a, FL.eN_a, FL.eP_p, FL.rd_d, FL.rd_i, FL.rd_p, FL.toSrc_a, FL.e1_a, FL.e2_a, FL.eCmp_a, FL.eBool_a, FL.eChain_a, FL.eChain_t, FL.pure_a, FL.eTruth_a, FL.bNot_a, FL.bAnd_a, FL.bOr_a, FL.bYes_a, FL.eIf_a, FL.vAnd_a, FL.vOr_a, FL.asBool_a, FL.eNil_a, FL.eCons_a, FL.eTup_a, FL.eLst_a, FL.eL_a, FL.eIx_a, FL.eSl_a, FL.pNo_a, FL.pSo_a, FL.asInt_a, FL.sNil_a, FL.sCons_a, FL.rdA_n, FL.rdA_c, FL.eCall1_a, FL.eCallL_a, FL.eIsi_a, FL.eM1_a, FL.sSeq_a, FL.sSeqL_a, FL.sIfL_a, FL.sNx_a, FL.sBk_a, FL.sCt_a, FL.sRet_a, FL.sRetN_a, FL.sDrop_a, FL.sIf_a, FL.aN_a, FL.aNil_a, FL.aCons_a, FL.aTup_a, FL.aPool_0, FL.aPool_1, FL.aPool_2, FL.sSet_a, FL.sSetO_a, FL.sAsg_a, FL.sApp_a, FL.sExt_a, FL.ePop_a, FL.sStore_a, FL.aSub_a, FL.ownAt_a, FL.putAt_a, FL.sPar_a, FL.mNil_a, FL.mV_a, FL.mO_a, FL.setAll_c, FL.setAll_n, FL.eDm_a, FL.eCall_a, FL.eCallP_a, FL.eCallO_a, FL.eCallOP_a, FL.arrB_a, FL.iEn_a, FL.turn_a, FL.fnB_a, FL.fnL_a, FL.rep_s, FL.rep_z, FL.few_z, FL.few_1, FL.few_2, FL.few_3, FL.gAdd_i, FL.gSub_i, FL.cLt_i, FL.cLe_i, FL.cGt_i, FL.cGe_i, FL.cEq_i, FL.cNe_i, FL.cEq_str, FL.cNe_str, FL.eqv_b, FL.cEq_b, FL.truth_b, FL.truth_i, FL.truth_l, FL.truth_t, FL.gLen_l, FL.gLen_t, FL.gInt_i, FL.gTup_l, FL.gTup_t, FL.items_l, FL.items_t, FL.cIs_b, FL.gIx_l0, FL.gIx_l1, FL.gIx_l2, FL.gIx_t0, FL.gIx_t1, FL.gIx_t2, FL.cLt_n, FL.cLt_ni, FL.cLt_in, FL.cLe_n, FL.cLe_ni, FL.cLe_in, FL.cGt_n, FL.cGt_ni, FL.cGe_n, FL.cGe_ni, FL.cEq_n, FL.cEq_in, FL.cNe_n, FL.cNe_ni, FL.gAdd_n, FL.gAdd_ni, FL.gAdd_in, FL.gSub_ni, FL.gSub_nn, FL.gSub_in, FL.gInt_n, FL.cEq_tN, FL.cNe_tN, FL.cEq_lN, FL.sh_nilL, FL.sh_nilT, FL.gLen_tN, FL.gLen_tT, FL.gIx_tN, FL.gIx_tT, FL.items_tN, FL.items_tT, FL.ty_i, FL.ty_n, FL.ty_tN, FL.ty_tT, FL.kit_ii, FL.kit_ib, FL.kit_tt, FL.kit_lt, FL.same_tN, FL.same_l, FL.arr_n, FL.arr_c, List.getElem?_cons_zero, List.getElem?_cons_succ, List.set_cons_zero, List.set_cons_succ, List.length_cons, List.length_nil, List.map_cons, List.map_nil, List.cons_append, List.nil_append, Bool.not_true, Bool.not_false, if_true, if_false, Bool.false_eq_true, FL.R.bind, eq_self, and_self, decide_true, decide_false, Option.bind_some, Option.map_some, List.length_map, FL.wipeE, FL.backE, g1, g2, g3, g4, g5, hc]
  exact key _ _ _ _ _ hd hb (tells_ok b) hw h4
theorem values_ok {n : Nat} {ls : List (List Nat)} {s1 s4 s5 s6 s7 s8 s9 s11 : Sl} {q : List Int} (h : BkOk n ls) (hq : PoolOk q) : ∃ (s4' s5' : Sl) (q' : List Int), PoolOk q' ∧ sFor (iItems (e2 gAdd (e2 gAdd (eCallP f__law_bent_books (eCons (eV 0) (eCons (eV 2) (eNil)))) (eCallP f__law_bent_books (eCons (eV 0) (eCons (eV 2) (eNil))))) (eCallP f__law_bent_books (eCons (eV 0) (eCons (eV 2) (eNil)))))) (aN 4) (vBody f__law_draw f_is_book f__law_tells f__law_wrong_book) (RS s1 (.v (tTT ls)) s4 s5 s6 s7 s8 s9 s11 q) = .ok .nx (RS s1 (.v (tTT ls)) s4' s5' s6 s7 s8 s9 s11 q') := by
  obtain ⟨v1, q1, e1, hq1, l1, w1⟩ := bent_ok h hq
  obtain ⟨v2, q2, e2, hq2, l2, w2⟩ := bent_ok h hq1
  obtain ⟨v3, q3, e3, hq3, l3, w3⟩ := bent_ok h hq2
  have a1 : gAdd (.list v1) (.list v2) = some (.list (v1 ++ v2)) := add_ll (by omega)
  have a2 : gAdd (.list (v1 ++ v2)) (.list v3) = some (.list (v1 ++ v2 ++ v3)) := add_ll (by rw [List.length_append]; omega)
  have hf : iItems (FL.e2 gAdd (FL.e2 gAdd (eCallP f__law_bent_books (eCons (eV 0) (eCons (eV 2) (eNil)))) (eCallP f__law_bent_books (eCons (eV 0) (eCons (eV 2) (eNil))))) (eCallP f__law_bent_books (eCons (eV 0) (eCons (eV 2) (eNil))))) (RS s1 (.v (tTT ls)) s4 s5 s6 s7 s8 s9 s11 q) = .ok (v1 ++ v2 ++ v3) (RS s1 (.v (tTT ls)) s4 s5 s6 s7 s8 s9 s11 q3) := by
    refine iItems_l ?_
    have key : ∀ (F : Fn) (x y : List D), F [poolD, tTT ls] (some q) = .ok (.list v1) (some q1) → F [poolD, tTT ls] (some q1) = .ok (.list v2) (some q2) → F [poolD, tTT ls] (some q2) = .ok (.list v3) (some q3) → gAdd (.list v1) (.list v2) = some (.list x) → gAdd (.list x) (.list v3) = some (.list y) →
        FL.e2 gAdd (FL.e2 gAdd (eCallP F (eCons (eV 0) (eCons (eV 2) (eNil)))) (eCallP F (eCons (eV 0) (eCons (eV 2) (eNil))))) (eCallP F (eCons (eV 0) (eCons (eV 2) (eNil)))) (RS s1 (.v (tTT ls)) s4 s5 s6 s7 s8 s9 s11 q) = .ok (.list y) (RS s1 (.v (tTT ls)) s4 s5 s6 s7 s8 s9 s11 q3) := by
      intro F x y g1 g2 g3 g4 g5
      simp (config := { implicitDefEqProofs := false }) only [RS, FL.lift_a, FL.eC_a, FL.eV_a, FL.eN_a, FL.eP_p, FL.rd_d, FL.rd_i, FL.rd_p, FL.toSrc_a, FL.e1_a, FL.e2_a, FL.eCmp_a, FL.eBool_a, FL.eChain_a, FL.eChain_t, FL.pure_a, FL.eTruth_a, FL.bNot_a, FL.bAnd_a, FL.bOr_a, FL.bYes_a, FL.eIf_a, FL.vAnd_a, FL.vOr_a, FL.asBool_a, FL.eNil_a, FL.eCons_a, FL.eTup_a, FL.eLst_a, FL.eL_a, FL.eIx_a, FL.eSl_a, FL.pNo_a, FL.pSo_a, FL.asInt_a, FL.sNil_a, FL.sCons_a, FL.rdA_n, FL.rdA_c, FL.eCall1_a, FL.eCallL_a, FL.eIsi_a, FL.eM1_a, FL.sSeq_a, FL.sSeqL_a, FL.sIfL_a, FL.sNx_a, FL.sBk_a, FL.sCt_a, FL.sRet_a, FL.sRetN_a, FL.sDrop_a, FL.sIf_a, FL.aN_a, FL.aNil_a, FL.aCons_a, FL.aTup_a, FL.aPool_0, FL.aPool_1, FL.aPool_2, FL.sSet_a, FL.sSetO_a, FL.sAsg_a, FL.sApp_a, FL.sExt_a, FL.ePop_a, FL.sStore_a, FL.aSub_a, FL.ownAt_a, FL.putAt_a, FL.sPar_a, FL.mNil_a, FL.mV_a, FL.mO_a, FL.setAll_c, FL.setAll_n, FL.eDm_a, FL.eCall_a, FL.eCallP_a, FL.eCallO_a, FL.eCallOP_a, FL.arrB_a, FL.iEn_a, FL.turn_a, FL.fnB_a, FL.fnL_a, FL.rep_s, FL.rep_z, FL.few_z, FL.few_1, FL.few_2, FL.few_3, FL.gAdd_i, FL.gSub_i, FL.cLt_i, FL.cLe_i, FL.cGt_i, FL.cGe_i, FL.cEq_i, FL.cNe_i, FL.cEq_str, FL.cNe_str, FL.eqv_b, FL.cEq_b, FL.truth_b, FL.truth_i, FL.truth_l, FL.truth_t, FL.gLen_l, FL.gLen_t, FL.gInt_i, FL.gTup_l, FL.gTup_t, FL.items_l, FL.items_t, FL.cIs_b, FL.gIx_l0, FL.gIx_l1, FL.gIx_l2, FL.gIx_t0, FL.gIx_t1, FL.gIx_t2, FL.cLt_n, FL.cLt_ni, FL.cLt_in, FL.cLe_n, FL.cLe_ni, FL.cLe_in, FL.cGt_n, FL.cGt_ni, FL.cGe_n, FL.cGe_ni, FL.cEq_n, FL.cEq_ni, FL.cEq_in, FL.cNe_n, FL.cNe_ni, FL.gAdd_n, FL.gAdd_ni, FL.gAdd_in, FL.gSub_ni, FL.gSub_nn, FL.gSub_in, FL.gInt_n, FL.cEq_tN, FL.cNe_tN, FL.cEq_lN, FL.sh_nilL, FL.sh_nilT, FL.gLen_tN, FL.gLen_tT, FL.gIx_tN, FL.gIx_tT, FL.items_tN, FL.items_tT, FL.ty_i, FL.ty_n, FL.ty_tN, FL.ty_tT, FL.kit_ii, FL.kit_ib, FL.kit_tt, FL.kit_lt, FL.same_tN, FL.same_l, FL.arr_n, FL.arr_c, List.getElem?_cons_zero, List.getElem?_cons_succ, List.set_cons_zero, List.set_cons_succ, List.length_cons, List.length_nil, List.map_cons, List.map_nil, List.cons_append, List.nil_append, Bool.not_true, Bool.not_false, if_true, if_false, Bool.false_eq_true, FL.R.bind, eq_self, and_self, decide_true, decide_false, Option.bind_some, Option.map_some, List.length_map, FL.wipeE, FL.backE, g1, g2, g3, g4, g5]
    exact key _ _ _ e1 e2 e3 a1 a2
  have hall : ∀ v ∈ v1 ++ v2 ++ v3, Val v := fun v hv => by
    rcases List.mem_append.mp hv with hv | hv
    · rcases List.mem_append.mp hv with hv | hv
      · exact w1 v hv
      · exact w2 v hv
    · exact w3 v hv
  obtain ⟨s', h1, h2⟩ := sFor_inv (a := aN 4) (g := vBody f__law_draw f_is_book f__law_tells f__law_wrong_book) (fun i s => ∃ s4 s5 q, s = RS s1 (.v (tTT ls)) s4 s5 s6 s7 s8 s9 s11 q ∧ PoolOk q) hf ⟨s4, s5, q3, rfl, hq3⟩ (fun i d s hd hs => by
    obtain ⟨t4, t5, q, rfl, hq⟩ := hs
    obtain ⟨b, q', hq', hb⟩ := vBody_ok (s1 := s1) (s2 := .v (tTT ls)) (s5 := t5) (s6 := s6) (s7 := s7) (s8 := s8) (s9 := s9) (s11 := s11) (hall d (List.mem_of_getElem? hd)) hq
    exact ⟨_, _, rfl, .inl hb, .v d, .v (.bool b), q', rfl, hq'⟩)
  obtain ⟨t4, t5, q', rfl, hq'⟩ := h2
  exact ⟨t4, t5, q', hq', h1⟩
/-! ### a couple struck out -/
abbrev oneC (a b : Nat) : B (List D) := eLc (iItems (eIx (eN 2) (eV a))) [10] (aN 10) (eCmp cNe (eN 10) (eN b)) (eV 10)
theorem oneC_7 {n i j : Nat} {ls : List (List Nat)} {s1 s4 s5 s6 s9 s11 : Sl} {q : List Int} (h : BkOk n ls) (hi : i < n) : oneC 7 8 (RS s1 (.v (tTT ls)) s4 s5 s6 (.v (nD i)) (.v (nD j)) s9 s11 q) = .ok (((ls.getD i []).filter fun x => !decide (x = j)).map nD) (RS s1 (.v (tTT ls)) s4 s5 s6 (.v (nD i)) (.v (nD j)) s9 s11 q) := by
  have hl := h.len
  have g := gIx_row (ls := ls) (i := i) (by omega)
  have hf : iItems (eIx (eN 2) (eV 7)) (RS s1 (.v (tTT ls)) s4 s5 s6 (.v (nD i)) (.v (nD j)) s9 s11 q) = .ok ((ls.getD i []).map nD) (RS s1 (.v (tTT ls)) s4 s5 s6 (.v (nD i)) (.v (nD j)) s9 s11 q) := by
    refine iItems_t ?_
    simp (config := { implicitDefEqProofs := false }) only [RS, FL.lift_a, FL.eC_a, FL.eV_a, FL.eN_a, FL.eP_p, FL.rd_d, FL.rd_i, FL.rd_p, FL.toSrc_a, FL.e1_a, FL.e2_a, FL.eCmp_a, FL.eBool_a, FL.eChain_a, FL.eChain_t, FL.pure_a, FL.eTruth_a, FL.bNot_a, FL.bAnd_a, FL.bOr_a, FL.bYes_a, FL.eIf_a, FL.vAnd_a, FL.vOr_a, FL.asBool_a, FL.eNil_a, FL.eCons_a, FL.eTup_a, FL.eLst_a, FL.eL_a, FL.eIx_a, FL.eSl_a, FL.pNo_a, FL.pSo_a, FL.asInt_a, FL.sNil_a, FL.sCons_a, FL.rdA_n, FL.rdA_c, FL.eCall1_a, FL.eCallL_a, FL.eIsi_a, FL.eM1_a, FL.sSeq_a, FL.sSeqL_a, FL.sIfL_a, FL.sNx_a, FL.sBk_a, FL.sCt_a, FL.sRet_a, FL.sRetN_a, FL.sDrop_a, FL.sIf_a, FL.aN_a, FL.aNil_a, FL.aCons_a, FL.aTup_a, FL.aPool_0, FL.aPool_1, FL.aPool_2, FL.sSet_a, FL.sSetO_a, FL.sAsg_a, FL.sApp_a, FL.sExt_a, FL.ePop_a, FL.sStore_a, FL.aSub_a, FL.ownAt_a, FL.putAt_a, FL.sPar_a, FL.mNil_a, FL.mV_a, FL.mO_a, FL.setAll_c, FL.setAll_n, FL.eDm_a, FL.eCall_a, FL.eCallP_a, FL.eCallO_a, FL.eCallOP_a, FL.arrB_a, FL.iEn_a, FL.turn_a, FL.fnB_a, FL.fnL_a, FL.rep_s, FL.rep_z, FL.few_z, FL.few_1, FL.few_2, FL.few_3, FL.gAdd_i, FL.gSub_i, FL.cLt_i, FL.cLe_i, FL.cGt_i, FL.cGe_i, FL.cEq_i, FL.cNe_i, FL.cEq_str, FL.cNe_str, FL.eqv_b, FL.cEq_b, FL.truth_b, FL.truth_i, FL.truth_l, FL.truth_t, FL.gLen_l, FL.gLen_t, FL.gInt_i, FL.gTup_l, FL.gTup_t, FL.items_l, FL.items_t, FL.cIs_b, FL.gIx_l0, FL.gIx_l1, FL.gIx_l2, FL.gIx_t0, FL.gIx_t1, FL.gIx_t2, FL.cLt_n, FL.cLt_ni, FL.cLt_in, FL.cLe_n, FL.cLe_ni, FL.cLe_in, FL.cGt_n, FL.cGt_ni, FL.cGe_n, FL.cGe_ni, FL.cEq_n, FL.cEq_ni, FL.cEq_in, FL.cNe_n, FL.cNe_ni, FL.gAdd_n, FL.gAdd_ni, FL.gAdd_in, FL.gSub_ni, FL.gSub_nn, FL.gSub_in, FL.gInt_n, FL.cEq_tN, FL.cNe_tN, FL.cEq_lN, FL.sh_nilL, FL.sh_nilT, FL.gLen_tN, FL.gLen_tT, FL.gIx_tN, FL.items_tN, FL.items_tT, FL.ty_i, FL.ty_n, FL.ty_tN, FL.ty_tT, FL.kit_ii, FL.kit_ib, FL.kit_tt, FL.kit_lt, FL.same_tN, FL.same_l, FL.arr_n, FL.arr_c, List.getElem?_cons_zero, List.getElem?_cons_succ, List.set_cons_zero, List.set_cons_succ, List.length_cons, List.length_nil, List.map_cons, List.map_nil, List.cons_append, List.nil_append, Bool.not_true, Bool.not_false, if_true, if_false, Bool.false_eq_true, FL.R.bind, eq_self, and_self, decide_true, decide_false, Option.bind_some, Option.map_some, List.length_map, FL.wipeE, FL.backE, g]
    rfl
  rw [← fm_if]
  refine eLc_filterA nD _ _ hf (fun x hx => ⟨[.v poolD, s1, .v (tTT ls), .no, s4, s5, s6, .v (nD i), .v (nD j), s9, .v (nD x), s11, .no], ?_, rfl⟩) (by have := h.row.len (i := i) (by omega); rw [sizeLine_eq]; omega)
  have hc : cNe (nD x) (nD j) = some (!decide (x = j)) := cNe_n
  cases c : (!decide (x = j)) <;> rw [c] at hc <;> simp (config := { implicitDefEqProofs := false }) only [RS, FL.lift_a, FL.eC_a, FL.eV_a, FL.eN_a, FL.eP_p, FL.rd_d, FL.rd_i, FL.rd_p, FL.toSrc_a, FL.e1_a, FL.e2_a, FL.eCmp_a, FL.eBool_a, FL.eChain_a, FL.eChain_t, FL.pure_a, FL.eTruth_a, FL.bNot_a, FL.bAnd_a, FL.bOr_a, FL.bYes_a, FL.eIf_a, FL.vAnd_a, FL.vOr_a, FL.asBool_a, FL.eNil_a, FL.eCons_a, FL.eTup_a, FL.eLst_a, FL.eL_a, FL.eIx_a, FL.eSl_a, FL.pNo_a, FL.pSo_a, FL.asInt_a, FL.sNil_a, FL.sCons_a, FL.rdA_n, FL.rdA_c, FL.eCall1_a, FL.eCallL_a, FL.eIsi_a, FL.eM1_a, FL.sSeq_a, FL.sSeqL_a, FL.sIfL_a, FL.sNx_a, FL.sBk_a, FL.sCt_a, FL.sRet_a, FL.sRetN_a, FL.sDrop_a, FL.sIf_a, FL.aN_a, FL.aNil_a, FL.aCons_a, FL.aTup_a, FL.aPool_0, FL.aPool_1, FL.aPool_2, FL.sSet_a, FL.sSetO_a, FL.sAsg_a, FL.sApp_a, FL.sExt_a, FL.ePop_a, FL.sStore_a, FL.aSub_a, FL.ownAt_a, FL.putAt_a, FL.sPar_a, FL.mNil_a, FL.mV_a, FL.mO_a, FL.setAll_c, FL.setAll_n, FL.eDm_a, FL.eCall_a, FL.eCallP_a, FL.eCallO_a, FL.eCallOP_a, FL.arrB_a, FL.iEn_a, FL.turn_a, FL.fnB_a, FL.fnL_a, FL.rep_s, FL.rep_z, FL.few_z, FL.few_1, FL.few_2, FL.few_3, FL.gAdd_i, FL.gSub_i, FL.cLt_i, FL.cLe_i, FL.cGt_i, FL.cGe_i, FL.cEq_i, FL.cNe_i, FL.cEq_str, FL.cNe_str, FL.eqv_b, FL.cEq_b, FL.truth_b, FL.truth_i, FL.truth_l, FL.truth_t, FL.gLen_l, FL.gLen_t, FL.gInt_i, FL.gTup_l, FL.gTup_t, FL.items_l, FL.items_t, FL.cIs_b, FL.gIx_l0, FL.gIx_l1, FL.gIx_l2, FL.gIx_t0, FL.gIx_t1, FL.gIx_t2, FL.cLt_n, FL.cLt_ni, FL.cLt_in, FL.cLe_n, FL.cLe_ni, FL.cLe_in, FL.cGt_n, FL.cGt_ni, FL.cGe_n, FL.cGe_ni, FL.cEq_n, FL.cEq_ni, FL.cEq_in, FL.cNe_ni, FL.gAdd_n, FL.gAdd_ni, FL.gAdd_in, FL.gSub_ni, FL.gSub_nn, FL.gSub_in, FL.gInt_n, FL.cEq_tN, FL.cNe_tN, FL.cEq_lN, FL.sh_nilL, FL.sh_nilT, FL.gLen_tN, FL.gLen_tT, FL.gIx_tN, FL.gIx_tT, FL.items_tN, FL.items_tT, FL.ty_i, FL.ty_n, FL.ty_tN, FL.ty_tT, FL.kit_ii, FL.kit_ib, FL.kit_tt, FL.kit_lt, FL.same_tN, FL.same_l, FL.arr_n, FL.arr_c, List.getElem?_cons_zero, List.getElem?_cons_succ, List.set_cons_zero, List.set_cons_succ, List.length_cons, List.length_nil, List.map_cons, List.map_nil, List.cons_append, List.nil_append, Bool.not_true, Bool.not_false, if_true, if_false, Bool.false_eq_true, FL.R.bind, eq_self, and_self, decide_true, decide_false, Option.bind_some, Option.map_some, List.length_map, FL.wipeE, FL.backE, hc]
theorem oneC_8 {n i j : Nat} {ls : List (List Nat)} {s1 s4 s5 s6 s9 s11 : Sl} {q : List Int} (h : BkOk n ls) (hj : j < n) : oneC 8 7 (RS s1 (.v (tTT ls)) s4 s5 s6 (.v (nD i)) (.v (nD j)) s9 s11 q) = .ok (((ls.getD j []).filter fun x => !decide (x = i)).map nD) (RS s1 (.v (tTT ls)) s4 s5 s6 (.v (nD i)) (.v (nD j)) s9 s11 q) := by
  have hl := h.len
  have g := gIx_row (ls := ls) (i := j) (by omega)
  have hf : iItems (eIx (eN 2) (eV 8)) (RS s1 (.v (tTT ls)) s4 s5 s6 (.v (nD i)) (.v (nD j)) s9 s11 q) = .ok ((ls.getD j []).map nD) (RS s1 (.v (tTT ls)) s4 s5 s6 (.v (nD i)) (.v (nD j)) s9 s11 q) := by
    refine iItems_t ?_
    simp (config := { implicitDefEqProofs := false }) only [RS, FL.lift_a, FL.eC_a, FL.eV_a, FL.eN_a, FL.eP_p, FL.rd_d, FL.rd_i, FL.rd_p, FL.toSrc_a, FL.e1_a, FL.e2_a, FL.eCmp_a, FL.eBool_a, FL.eChain_a, FL.eChain_t, FL.pure_a, FL.eTruth_a, FL.bNot_a, FL.bAnd_a, FL.bOr_a, FL.bYes_a, FL.eIf_a, FL.vAnd_a, FL.vOr_a, FL.asBool_a, FL.eNil_a, FL.eCons_a, FL.eTup_a, FL.eLst_a, FL.eL_a, FL.eIx_a, FL.eSl_a, FL.pNo_a, FL.pSo_a, FL.asInt_a, FL.sNil_a, FL.sCons_a, FL.rdA_n, FL.rdA_c, FL.eCall1_a, FL.eCallL_a, FL.eIsi_a, FL.eM1_a, FL.sSeq_a, FL.sSeqL_a, FL.sIfL_a, FL.sNx_a, FL.sBk_a, FL.sCt_a, FL.sRet_a, FL.sRetN_a, FL.sDrop_a, FL.sIf_a, FL.aN_a, FL.aNil_a, FL.aCons_a, FL.aTup_a, FL.aPool_0, FL.aPool_1, FL.aPool_2, FL.sSet_a, FL.sSetO_a, FL.sAsg_a, FL.sApp_a, FL.sExt_a, FL.ePop_a, FL.sStore_a, FL.aSub_a, FL.ownAt_a, FL.putAt_a, FL.sPar_a, FL.mNil_a, FL.mV_a, FL.mO_a, FL.setAll_c, FL.setAll_n, FL.eDm_a, FL.eCall_a, FL.eCallP_a, FL.eCallO_a, FL.eCallOP_a, FL.arrB_a, FL.iEn_a, FL.turn_a, FL.fnB_a, FL.fnL_a, FL.rep_s, FL.rep_z, FL.few_z, FL.few_1, FL.few_2, FL.few_3, FL.gAdd_i, FL.gSub_i, FL.cLt_i, FL.cLe_i, FL.cGt_i, FL.cGe_i, FL.cEq_i, FL.cNe_i, FL.cEq_str, FL.cNe_str, FL.eqv_b, FL.cEq_b, FL.truth_b, FL.truth_i, FL.truth_l, FL.truth_t, FL.gLen_l, FL.gLen_t, FL.gInt_i, FL.gTup_l, FL.gTup_t, FL.items_l, FL.items_t, FL.cIs_b, FL.gIx_l0, FL.gIx_l1, FL.gIx_l2, FL.gIx_t0, FL.gIx_t1, FL.gIx_t2, FL.cLt_n, FL.cLt_ni, FL.cLt_in, FL.cLe_n, FL.cLe_ni, FL.cLe_in, FL.cGt_n, FL.cGt_ni, FL.cGe_n, FL.cGe_ni, FL.cEq_n, FL.cEq_ni, FL.cEq_in, FL.cNe_n, FL.cNe_ni, FL.gAdd_n, FL.gAdd_ni, FL.gAdd_in, FL.gSub_ni, FL.gSub_nn, FL.gSub_in, FL.gInt_n, FL.cEq_tN, FL.cNe_tN, FL.cEq_lN, FL.sh_nilL, FL.sh_nilT, FL.gLen_tN, FL.gLen_tT, FL.gIx_tN, FL.items_tN, FL.items_tT, FL.ty_i, FL.ty_n, FL.ty_tN, FL.ty_tT, FL.kit_ii, FL.kit_ib, FL.kit_tt, FL.kit_lt, FL.same_tN, FL.same_l, FL.arr_n, FL.arr_c, List.getElem?_cons_zero, List.getElem?_cons_succ, List.set_cons_zero, List.set_cons_succ, List.length_cons, List.length_nil, List.map_cons, List.map_nil, List.cons_append, List.nil_append, Bool.not_true, Bool.not_false, if_true, if_false, Bool.false_eq_true, FL.R.bind, eq_self, and_self, decide_true, decide_false, Option.bind_some, Option.map_some, List.length_map, FL.wipeE, FL.backE, g]
    rfl
  rw [← fm_if]
  refine eLc_filterA nD _ _ hf (fun x hx => ⟨[.v poolD, s1, .v (tTT ls), .no, s4, s5, s6, .v (nD i), .v (nD j), s9, .v (nD x), s11, .no], ?_, rfl⟩) (by have := h.row.len (i := j) (by omega); rw [sizeLine_eq]; omega)
  have hc : cNe (nD x) (nD i) = some (!decide (x = i)) := cNe_n
  cases c : (!decide (x = i)) <;> rw [c] at hc <;> simp (config := { implicitDefEqProofs := false }) only [RS, FL.lift_a, FL.eC_a, FL.eV_a, FL.eN_a, FL.eP_p, FL.rd_d, FL.rd_i, FL.rd_p, FL.toSrc_a, FL.e1_a, FL.e2_a, FL.eCmp_a, FL.eBool_a, FL.eChain_a, FL.eChain_t, FL.pure_a, FL.eTruth_a, FL.bNot_a, FL.bAnd_a, FL.bOr_a, FL.bYes_a, FL.eIf_a, FL.vAnd_a, FL.vOr_a, FL.asBool_a, FL.eNil_a, FL.eCons_a, FL.eTup_a, FL.eLst_a, FL.eL_a, FL.eIx_a, FL.eSl_a, FL.pNo_a, FL.pSo_a, FL.asInt_a, FL.sNil_a, FL.sCons_a, FL.rdA_n, FL.rdA_c, FL.eCall1_a, FL.eCallL_a, FL.eIsi_a, FL.eM1_a, FL.sSeq_a, FL.sSeqL_a, FL.sIfL_a, FL.sNx_a, FL.sBk_a, FL.sCt_a, FL.sRet_a, FL.sRetN_a, FL.sDrop_a, FL.sIf_a, FL.aN_a, FL.aNil_a, FL.aCons_a, FL.aTup_a, FL.aPool_0, FL.aPool_1, FL.aPool_2, FL.sSet_a, FL.sSetO_a, FL.sAsg_a, FL.sApp_a, FL.sExt_a, FL.ePop_a, FL.sStore_a, FL.aSub_a, FL.ownAt_a, FL.putAt_a, FL.sPar_a, FL.mNil_a, FL.mV_a, FL.mO_a, FL.setAll_c, FL.setAll_n, FL.eDm_a, FL.eCall_a, FL.eCallP_a, FL.eCallO_a, FL.eCallOP_a, FL.arrB_a, FL.iEn_a, FL.turn_a, FL.fnB_a, FL.fnL_a, FL.rep_s, FL.rep_z, FL.few_z, FL.few_1, FL.few_2, FL.few_3, FL.gAdd_i, FL.gSub_i, FL.cLt_i, FL.cLe_i, FL.cGt_i, FL.cGe_i, FL.cEq_i, FL.cNe_i, FL.cEq_str, FL.cNe_str, FL.eqv_b, FL.cEq_b, FL.truth_b, FL.truth_i, FL.truth_l, FL.truth_t, FL.gLen_l, FL.gLen_t, FL.gInt_i, FL.gTup_l, FL.gTup_t, FL.items_l, FL.items_t, FL.cIs_b, FL.gIx_l0, FL.gIx_l1, FL.gIx_l2, FL.gIx_t0, FL.gIx_t1, FL.gIx_t2, FL.cLt_n, FL.cLt_ni, FL.cLt_in, FL.cLe_n, FL.cLe_ni, FL.cLe_in, FL.cGt_n, FL.cGt_ni, FL.cGe_n, FL.cGe_ni, FL.cEq_n, FL.cEq_ni, FL.cEq_in, FL.cNe_ni, FL.gAdd_n, FL.gAdd_ni, FL.gAdd_in, FL.gSub_ni, FL.gSub_nn, FL.gSub_in, FL.gInt_n, FL.cEq_tN, FL.cNe_tN, FL.cEq_lN, FL.sh_nilL, FL.sh_nilT, FL.gLen_tN, FL.gLen_tT, FL.gIx_tN, FL.gIx_tT, FL.items_tN, FL.items_tT, FL.ty_i, FL.ty_n, FL.ty_tN, FL.ty_tT, FL.kit_ii, FL.kit_ib, FL.kit_tt, FL.kit_lt, FL.same_tN, FL.same_l, FL.arr_n, FL.arr_c, List.getElem?_cons_zero, List.getElem?_cons_succ, List.set_cons_zero, List.set_cons_succ, List.length_cons, List.length_nil, List.map_cons, List.map_nil, List.cons_append, List.nil_append, Bool.not_true, Bool.not_false, if_true, if_false, Bool.false_eq_true, FL.R.bind, eq_self, and_self, decide_true, decide_false, Option.bind_some, Option.map_some, List.length_map, FL.wipeE, FL.backE, hc]
theorem set_val {ls : List (List Nat)} (h : ∀ l ∈ ls, l.length ≤ 7) (hl : ls.length ≤ 7) : Val (tTT ls) :=
  val_tup (by rw [List.length_map]; omega) fun d hd => by obtain ⟨l, hlm, rfl⟩ := List.mem_map.mp hd; exact rowC_tN (by have := h l hlm; omega)
theorem set_len {ls : List (List Nat)} (h : ∀ l ∈ ls, l.length ≤ 7) {i : Nat} {r : List Nat} (hr : r.length ≤ 7) : ∀ l ∈ ls.set i r, l.length ≤ 7 := fun l hl => by
  rcases List.mem_or_eq_of_mem_set hl with h1 | h1
  · exact h l h1
  · rw [h1]; exact hr
theorem same_ft : f__law_same [.list [.bool false, .bool true], .list [.bool false, .bool true]] none = .ok (.bool true) none := by kernel_rfl
abbrev sBody (K P I S : Fn) (C1 C2 : B (List D)) : B Fl := sSeq (sAsg (eCallP K (eCons (eV 0) (eCons (eV 6) (eNil)))) (aTup (aCons (aN 7) (aCons (aN 8) (aNil))))) (sSeq (sSet 9 (eCall P (eCons (eV 2) (eCons (eV 7) (eCons (eCall1 gTupOf (sCons (toSrc (eL C1)) (sNil))) (eNil)))))) (sSeq (sSet 11 (eCall P (eCons (eV 9) (eCons (eV 8) (eCons (eCall1 gTupOf (sCons (toSrc (eL C2)) (sNil))) (eNil)))))) (sIf (bNot (eTruth (toSrc (eCall S (eCons (eL (eLst (eCons (eCall I (eCons (eV 9) (eNil))) (eCons (eCall I (eCons (eV 11) (eNil))) (eNil))))) (eCons (eL (eLst (eCons (eC (.bool false)) (eCons (eC (.bool true)) (eNil))))) (eNil))))))) (sRet (eC (.bool false))) (sNx))))
theorem sBody_ok {n : Nat} {ls cs : List (List Nat)} {s1 s4 s5 s7 s8 s9 s11 : Sl} {q : List Int} (h : BkOk n ls) (hq : PoolOk q) (hne : cs ≠ []) (hl : cs.length ≤ 49) (hx : ∀ x ∈ cs, ∃ i j, x = [i, j] ∧ i < ls.length ∧ j ∈ ls.getD i []) :
    ∃ (s7' s8' s9' s11' : Sl) (q' : List Int), PoolOk q' ∧ sBody f__law_pick f__law_put f_is_book f__law_same (oneC 7 8) (oneC 8 7) (RS s1 (.v (tTT ls)) s4 s5 (.v (.list (cs.map tN))) s7 s8 s9 s11 q) = .ok .nx (RS s1 (.v (tTT ls)) s4 s5 (.v (.list (cs.map tN))) s7' s8' s9' s11' q') := by
  obtain ⟨c, q', hc, hq', hp⟩ := pick_ok hne (by omega) hq
  obtain ⟨i, j, rfl, hi, hj⟩ := hx c hc
  have hn := h.len
  have h7 := h.hi
  have hi : i < n := by omega
  have hj' := h.inn i hi j hj
  have hrl : ∀ k, k < n → (ls.getD k []).length ≤ 7 := fun k hk => h.row.len (by omega)
  have p1 := put_ok (ds := ls.map tN) (k := i) (d := tN ((ls.getD i []).filter fun x => !decide (x = j))) (by rw [List.length_map]; omega) (by rw [List.length_map]; omega)
  rw [putD_set (by omega)] at p1
  have p2 := put_ok (ds := (ls.set i ((ls.getD i []).filter fun x => !decide (x = j))).map tN) (k := j) (d := tN ((ls.getD j []).filter fun x => !decide (x = i))) (by rw [List.length_map, List.length_set]; omega) (by rw [List.length_map, List.length_set]; omega)
  rw [putD_set (by rw [List.length_set]; omega)] at p2
  have hfl : ∀ k (f : Nat → Bool), k < n → ((ls.getD k []).filter f).length ≤ 7 := fun k f hk => Nat.le_trans (List.length_filter_le _ _) (hrl k hk)
  have v1 := set_val (set_len h.rlen (i := i) (hfl i (fun x => !decide (x = j)) hi)) (by rw [List.length_set]; omega)
  have v2 := set_val (set_len (set_len h.rlen (i := i) (hfl i (fun x => !decide (x = j)) hi)) (i := j) (hfl j (fun x => !decide (x = i)) hj'.1)) (by rw [List.length_set, List.length_set]; omega)
  obtain ⟨b1, g1, w1⟩ := is_book_ok v1
  obtain ⟨b2, g2, w2⟩ := is_book_ok v2
  have e1 : b1 = false := by
    cases b1 with
    | false => rfl
    | true => exact absurd (w1.mp rfl) (bare_not h hi hj)
  have e2 : b2 = true := w2.mpr (both_bk h hi hj)
  subst e1 e2
  revert p1 p2 g1 g2
  have hC1 := oneC_7 (j := j) (s1 := s1) (s4 := s4) (s5 := s5) (s6 := .v (.list (cs.map tN))) (s9 := s9) (s11 := s11) (q := q') h hi
  have hC2 : ∀ x : D, _ := fun x : D => oneC_8 (i := i) (s1 := s1) (s4 := s4) (s5 := s5) (s6 := .v (.list (cs.map tN))) (s9 := .v x) (s11 := s11) (q := q') h hj'.1
  revert hC1 hC2
  generalize (ls.getD i []).filter (fun x => !decide (x = j)) = r1
  generalize (ls.getD j []).filter (fun x => !decide (x = i)) = r2
  intro hC1 hC2 p1 p2 g1 g2
  refine ⟨.v (nD i), .v (nD j), .v (tTT (ls.set i r1)), .v (tTT ((ls.set i r1).set j r2)), q', hq', ?_⟩
  have key : ∀ (K P I S : Fn) (C1 C2 : B (List D)) (B1 B2 : D), K [poolD, .list (cs.map tN)] (some q) = .ok (tN [i, j]) (some q') → P [tTT ls, nD i, tN r1] none = .ok B1 none → P [B1, nD j, tN r2] none = .ok B2 none → I [B1] none = .ok (.bool false) none → I [B2] none = .ok (.bool true) none → S [.list [.bool false, .bool true], .list [.bool false, .bool true]] none = .ok (.bool true) none →
      C1 (RS s1 (.v (tTT ls)) s4 s5 (.v (.list (cs.map tN))) (.v (nD i)) (.v (nD j)) s9 s11 q') = .ok (r1.map nD) (RS s1 (.v (tTT ls)) s4 s5 (.v (.list (cs.map tN))) (.v (nD i)) (.v (nD j)) s9 s11 q') →
      C2 (RS s1 (.v (tTT ls)) s4 s5 (.v (.list (cs.map tN))) (.v (nD i)) (.v (nD j)) (.v B1) s11 q') = .ok (r2.map nD) (RS s1 (.v (tTT ls)) s4 s5 (.v (.list (cs.map tN))) (.v (nD i)) (.v (nD j)) (.v B1) s11 q') →
      sBody K P I S C1 C2 (RS s1 (.v (tTT ls)) s4 s5 (.v (.list (cs.map tN))) s7 s8 s9 s11 q) = .ok .nx (RS s1 (.v (tTT ls)) s4 s5 (.v (.list (cs.map tN))) (.v (nD i)) (.v (nD j)) (.v B1) (.v B2) q') := by
    intro K P I S C1 C2 B1 B2 k1 k2 k3 k4 k5 k6 k7 k8
    have ht : tN [i, j] = .tuple [nD i, nD j] := rfl
    have hT : ∀ x : List Nat, gTupOf [.list (x.map nD)] = some (tN x) := fun _ => rfl
    rw [ht] at k1
    simp only [RS] at k7 k8
    simp (config := { implicitDefEqProofs := false }) only [sBody, RS, FL.lift_a, FL.eC_a, FL.eV_a, FL.eN_a, FL.eP_p, FL.rd_d, FL.rd_i, FL.rd_p, FL.toSrc_a, FL.e1_a, FL.e2_a, FL.eCmp_a, FL.eBool_a, FL.eChain_a, FL.eChain_t, FL.pure_a, FL.eTruth_a, FL.bNot_a, FL.bAnd_a, FL.bOr_a, FL.bYes_a, FL.eIf_a, FL.vAnd_a, FL.vOr_a, FL.asBool_a, FL.eNil_a, FL.eCons_a, FL.eTup_a, FL.eLst_a, FL.eL_a, FL.eIx_a, FL.eSl_a, FL.pNo_a, FL.pSo_a, FL.asInt_a, FL.sNil_a, FL.sCons_a, FL.rdA_n, FL.rdA_c, FL.eCall1_a, FL.eCallL_a, FL.eIsi_a, FL.eM1_a, FL.sSeq_a, FL.sSeqL_a, FL.sIfL_a, FL.sNx_a, FL.sBk_a, FL.sCt_a, FL.sRet_a, FL.sRetN_a, FL.sDrop_a, FL.sIf_a, FL.aN_a, FL.aNil_a, FL.aCons_a, FL.aTup_a, FL.aPool_0, FL.aPool_1, FL.aPool_2, FL.sSet_a, FL.sSetO_a, FL.sAsg_a, FL.sApp_a, FL.sExt_a, FL.ePop_a, FL.sStore_a, FL.aSub_a, FL.ownAt_a, FL.putAt_a, FL.sPar_a, FL.mNil_a, FL.mV_a, FL.mO_a, FL.setAll_c, FL.setAll_n, FL.eDm_a, FL.eCall_a, FL.eCallP_a, FL.eCallO_a, FL.eCallOP_a, FL.arrB_a, FL.iEn_a, FL.turn_a, FL.fnB_a, FL.fnL_a, FL.rep_s, FL.rep_z, FL.few_z, FL.few_1, FL.few_2, FL.few_3, FL.gAdd_i, FL.gSub_i, FL.cLt_i, FL.cLe_i, FL.cGt_i, FL.cGe_i, FL.cEq_i, FL.cNe_i, FL.cEq_str, FL.cNe_str, FL.eqv_b, FL.cEq_b, FL.truth_b, FL.truth_i, FL.truth_l, FL.truth_t, FL.gLen_l, FL.gLen_t, FL.gInt_i, FL.gTup_t, FL.items_l, FL.items_t, FL.cIs_b, FL.gIx_l0, FL.gIx_l1, FL.gIx_l2, FL.gIx_t0, FL.gIx_t1, FL.gIx_t2, FL.cLt_n, FL.cLt_ni, FL.cLt_in, FL.cLe_n, FL.cLe_ni, FL.cLe_in, FL.cGt_n, FL.cGt_ni, FL.cGe_n, FL.cGe_ni, FL.cEq_n, FL.cEq_ni, FL.cEq_in, FL.cNe_n, FL.cNe_ni, FL.gAdd_n, FL.gAdd_ni, FL.gAdd_in, FL.gSub_ni, FL.gSub_nn, FL.gSub_in, FL.gInt_n, FL.cEq_tN, FL.cNe_tN, FL.cEq_lN, FL.sh_nilL, FL.sh_nilT, FL.gLen_tN, FL.gLen_tT, FL.gIx_tN, FL.gIx_tT, FL.items_tN, FL.items_tT, FL.ty_i, FL.ty_n, FL.ty_tN, FL.ty_tT, FL.kit_ii, FL.kit_ib, FL.kit_tt, FL.kit_lt, FL.same_tN, FL.same_l, FL.arr_n, FL.arr_c, List.getElem?_cons_zero, List.getElem?_cons_succ, List.set_cons_zero, List.set_cons_succ, List.length_cons, List.length_nil, List.map_cons, List.map_nil, List.cons_append, List.nil_append, Bool.not_true, Bool.not_false, if_true, if_false, Bool.false_eq_true, FL.R.bind, eq_self, and_self, decide_true, decide_false, Option.bind_some, Option.map_some, List.length_map, FL.wipeE, FL.backE, k1, k7, hT, k2, k8, k3, k4, k5, k6]
  exact key _ _ _ _ _ _ _ _ hp p1 p2 g1 g2 same_ft hC1 (hC2 _)
end M
set_option maxHeartbeats 4000000
/-! k03: the law's end. -/
namespace M
open PySem PySem.Spec PyProof.Rows L2 FL
abbrev manyB (Bk I Cp : Fn) (CM CR : B (List D)) (L SB' : B Fl) : B Fl := sSeq (sSet 2 (eCallP Bk (eCons (eV 0) (eCons (eV 1) (eNil))))) (sSeq (sIf (bOr (eCmp (cIs true) (toSrc (eCall I (eCons (eV 2) (eNil)))) (toSrc (eC (.bool true)))) (bOr (eCmp (cIs true) (toSrc (eCall I (arrB 0 1 [0] (eNil) (eCons (eCall1 gTupOf (sCons (toSrc (eL CM)) (sNil))) (eNil))))) (toSrc (eC (.bool true)))) (eCmp (cIs true) (toSrc (eCall I (eCons (eCall1 gTupOf (sCons (toSrc (eL CR)) (sNil))) (eNil)))) (toSrc (eC (.bool true)))))) (sRet (eC (.bool false))) (sNx)) (sSeq L (sSeq (sSet 6 (eCall Cp (eCons (eV 2) (eNil)))) (sIf (eCmp cNe (eN 6) (toSrc (eL (eLst (eNil))))) SB' (sNx)))))
abbrev LV : B Fl := sFor (iItems (FL.e2 gAdd (FL.e2 gAdd (eCallP f__law_bent_books (eCons (eV 0) (eCons (eV 2) (eNil)))) (eCallP f__law_bent_books (eCons (eV 0) (eCons (eV 2) (eNil))))) (eCallP f__law_bent_books (eCons (eV 0) (eCons (eV 2) (eNil)))))) (aN 4) (vBody f__law_draw f_is_book f__law_tells f__law_wrong_book)
theorem many_ok {n : Nat} {s2 s4 s5 s6 s7 s8 s9 s11 : Sl} {q : List Int} (h1 : 1 ≤ n) (hn : n ≤ 7) (hq : PoolOk q) : ∃ (t2 t4 t5 t6 t7 t8 t9 t11 : Sl) (q' : List Int), PoolOk q' ∧ manyB f__law_book f_is_book f__law_couples (mxC f__law_mixed) rvC LV (sBody f__law_pick f__law_put f_is_book f__law_same (oneC 7 8) (oneC 8 7)) (RS (.v (nD n)) s2 s4 s5 s6 s7 s8 s9 s11 q) = .ok .nx (RS (.v (nD n)) t2 t4 t5 t6 t7 t8 t9 t11 q') := by
  obtain ⟨ls, q1, h, hq1, hb⟩ := book_ok h1 hn hq
  obtain ⟨ms, q2, hm, hq2, hCM⟩ := mxC_ok (s1 := .v (nD n)) (s4 := s4) (s5 := s5) (s6 := s6) (s7 := s7) (s8 := s8) (s9 := s9) (s11 := s11) h hq1
  obtain ⟨hCR, hrv⟩ := rvC_ok (s1 := .v (nD n)) (s4 := s4) (s5 := s5) (s6 := s6) (s7 := s7) (s8 := s8) (s9 := s9) (s11 := s11) (q := q2) h
  obtain ⟨t4, t5, q3, hq3, hL⟩ := values_ok (s1 := .v (nD n)) (s4 := s4) (s5 := s5) (s6 := s6) (s7 := s7) (s8 := s8) (s9 := s9) (s11 := s11) h hq2
  obtain ⟨cs, lc, wc, hc⟩ := couples_ok h.row
  have hi : cIs true (.bool true) (.bool true) = some false := rfl
  have hT : ∀ x : List (List Nat), gTupOf [.list (x.map tN)] = some (tTT x) := fun _ => rfl
  have key : ∀ (Bk I Cp : Fn) (CM CR : B (List D)) (L SB' : B Fl) (b : Bool) (R : R S Fl), Bk [poolD, nD n] (some q) = .ok (tTT ls) (some q1) → I [tTT ls] none = .ok (.bool true) none → I [tTT ms] none = .ok (.bool true) none → I [tTT (ls.map List.reverse)] none = .ok (.bool true) none → Cp [tTT ls] none = .ok (.list (cs.map tN)) none →
      CM (RS (.v (nD n)) (.v (tTT ls)) s4 s5 s6 s7 s8 s9 s11 q1) = .ok (ms.map tN) (RS (.v (nD n)) (.v (tTT ls)) s4 s5 s6 s7 s8 s9 s11 q2) → CR (RS (.v (nD n)) (.v (tTT ls)) s4 s5 s6 s7 s8 s9 s11 q2) = .ok ((ls.map List.reverse).map tN) (RS (.v (nD n)) (.v (tTT ls)) s4 s5 s6 s7 s8 s9 s11 q2) →
      L (RS (.v (nD n)) (.v (tTT ls)) s4 s5 s6 s7 s8 s9 s11 q2) = .ok .nx (RS (.v (nD n)) (.v (tTT ls)) t4 t5 s6 s7 s8 s9 s11 q3) → cNe (.list (cs.map tN)) (.list []) = some b → (b = true → SB' (RS (.v (nD n)) (.v (tTT ls)) t4 t5 (.v (.list (cs.map tN))) s7 s8 s9 s11 q3) = R) →
      manyB Bk I Cp CM CR L SB' (RS (.v (nD n)) s2 s4 s5 s6 s7 s8 s9 s11 q) = if b = true then R else .ok .nx (RS (.v (nD n)) (.v (tTT ls)) t4 t5 (.v (.list (cs.map tN))) s7 s8 s9 s11 q3) := by
    intro Bk I Cp CM CR L SB' b R k1 k2 k3 k4 k5 k6 k7 k8 k9 k10
    simp only [RS] at k6 k7 k8 k10
    cases b with
    | false => simp (config := { implicitDefEqProofs := false }) only [manyB, RS, FL.lift_a, FL.eC_a, FL.eV_a, FL.eN_a, FL.eP_p, FL.rd_d, FL.rd_i, FL.rd_p, FL.toSrc_a, FL.e1_a, FL.e2_a, FL.eCmp_a, FL.eBool_a, FL.eChain_a, FL.eChain_t, FL.pure_a, FL.eTruth_a, FL.bNot_a, FL.bAnd_a, FL.bOr_a, FL.bYes_a, FL.eIf_a, FL.vAnd_a, FL.vOr_a, FL.asBool_a, FL.eNil_a, FL.eCons_a, FL.eTup_a, FL.eLst_a, FL.eL_a, FL.eIx_a, FL.eSl_a, FL.pNo_a, FL.pSo_a, FL.asInt_a, FL.sNil_a, FL.sCons_a, FL.rdA_n, FL.rdA_c, FL.eCall1_a, FL.eCallL_a, FL.eIsi_a, FL.eM1_a, FL.sSeq_a, FL.sSeqL_a, FL.sIfL_a, FL.sNx_a, FL.sBk_a, FL.sCt_a, FL.sRet_a, FL.sRetN_a, FL.sDrop_a, FL.sIf_a, FL.aN_a, FL.aNil_a, FL.aCons_a, FL.aTup_a, FL.aPool_0, FL.aPool_1, FL.aPool_2, FL.sSet_a, FL.sSetO_a, FL.sAsg_a, FL.sApp_a, FL.sExt_a, FL.ePop_a, FL.sStore_a, FL.aSub_a, FL.ownAt_a, FL.putAt_a, FL.sPar_a, FL.mNil_a, FL.mV_a, FL.mO_a, FL.setAll_c, FL.setAll_n, FL.eDm_a, FL.eCall_a, FL.eCallP_a, FL.eCallO_a, FL.eCallOP_a, FL.arrB_a, FL.iEn_a, FL.turn_a, FL.fnB_a, FL.fnL_a, FL.rep_s, FL.rep_z, FL.few_z, FL.few_1, FL.few_2, FL.few_3, FL.gAdd_i, FL.gSub_i, FL.cLt_i, FL.cLe_i, FL.cGt_i, FL.cGe_i, FL.cEq_i, FL.cNe_i, FL.cEq_str, FL.cNe_str, FL.eqv_b, FL.cEq_b, FL.truth_b, FL.truth_i, FL.truth_l, FL.truth_t, FL.gLen_l, FL.gLen_t, FL.gInt_i, FL.gTup_t, FL.items_l, FL.items_t, FL.gIx_l0, FL.gIx_l1, FL.gIx_l2, FL.gIx_t0, FL.gIx_t1, FL.gIx_t2, FL.cLt_n, FL.cLt_ni, FL.cLt_in, FL.cLe_n, FL.cLe_ni, FL.cLe_in, FL.cGt_n, FL.cGt_ni, FL.cGe_n, FL.cGe_ni, FL.cEq_n, FL.cEq_ni, FL.cEq_in, FL.cNe_n, FL.cNe_ni, FL.gAdd_n, FL.gAdd_ni, FL.gAdd_in, FL.gSub_ni, FL.gSub_nn, FL.gSub_in, FL.gInt_n, FL.cEq_tN, FL.cNe_tN, FL.cEq_lN, FL.sh_nilL, FL.sh_nilT, FL.gLen_tN, FL.gLen_tT, FL.gIx_tN, FL.gIx_tT, FL.items_tN, FL.items_tT, FL.ty_i, FL.ty_n, FL.ty_tN, FL.ty_tT, FL.kit_ii, FL.kit_ib, FL.kit_tt, FL.kit_lt, FL.same_tN, FL.same_l, FL.arr_n, FL.arr_c, List.getElem?_cons_zero, List.getElem?_cons_succ, List.set_cons_zero, List.set_cons_succ, List.length_cons, List.length_nil, List.map_cons, List.map_nil, List.cons_append, List.nil_append, Bool.not_true, Bool.not_false, if_true, if_false, Bool.false_eq_true, FL.R.bind, eq_self, and_self, decide_true, decide_false, Option.bind_some, Option.map_some, List.length_map, FL.wipeE, FL.backE, k1, k2, hi, k6, hT, k3, k7, k4, k8, k5, k9]
    | true =>
      have k10 := k10 rfl
      simp (config := { implicitDefEqProofs := false }) only [manyB, RS, FL.lift_a, FL.eC_a, FL.eV_a, FL.eN_a, FL.eP_p, FL.rd_d, FL.rd_i, FL.rd_p, FL.toSrc_a, FL.e1_a, FL.e2_a, FL.eCmp_a, FL.eBool_a, FL.eChain_a, FL.eChain_t, FL.pure_a, FL.eTruth_a, FL.bNot_a, FL.bAnd_a, FL.bOr_a, FL.bYes_a, FL.eIf_a, FL.vAnd_a, FL.vOr_a, FL.asBool_a, FL.eNil_a, FL.eCons_a, FL.eTup_a, FL.eLst_a, FL.eL_a, FL.eIx_a, FL.eSl_a, FL.pNo_a, FL.pSo_a, FL.asInt_a, FL.sNil_a, FL.sCons_a, FL.rdA_n, FL.rdA_c, FL.eCall1_a, FL.eCallL_a, FL.eIsi_a, FL.eM1_a, FL.sSeq_a, FL.sSeqL_a, FL.sIfL_a, FL.sNx_a, FL.sBk_a, FL.sCt_a, FL.sRet_a, FL.sRetN_a, FL.sDrop_a, FL.sIf_a, FL.aN_a, FL.aNil_a, FL.aCons_a, FL.aTup_a, FL.aPool_0, FL.aPool_1, FL.aPool_2, FL.sSet_a, FL.sSetO_a, FL.sAsg_a, FL.sApp_a, FL.sExt_a, FL.ePop_a, FL.sStore_a, FL.aSub_a, FL.ownAt_a, FL.putAt_a, FL.sPar_a, FL.mNil_a, FL.mV_a, FL.mO_a, FL.setAll_c, FL.setAll_n, FL.eDm_a, FL.eCall_a, FL.eCallP_a, FL.eCallO_a, FL.eCallOP_a, FL.arrB_a, FL.iEn_a, FL.turn_a, FL.fnB_a, FL.fnL_a, FL.rep_s, FL.rep_z, FL.few_z, FL.few_1, FL.few_2, FL.few_3, FL.gAdd_i, FL.gSub_i, FL.cLt_i, FL.cLe_i, FL.cGt_i, FL.cGe_i, FL.cEq_i, FL.cNe_i, FL.cEq_str, FL.cNe_str, FL.eqv_b, FL.cEq_b, FL.truth_b, FL.truth_i, FL.truth_l, FL.truth_t, FL.gLen_l, FL.gLen_t, FL.gInt_i, FL.gTup_t, FL.items_l, FL.items_t, FL.gIx_l0, FL.gIx_l1, FL.gIx_l2, FL.gIx_t0, FL.gIx_t1, FL.gIx_t2, FL.cLt_n, FL.cLt_ni, FL.cLt_in, FL.cLe_n, FL.cLe_ni, FL.cLe_in, FL.cGt_n, FL.cGt_ni, FL.cGe_n, FL.cGe_ni, FL.cEq_n, FL.cEq_ni, FL.cEq_in, FL.cNe_n, FL.cNe_ni, FL.gAdd_n, FL.gAdd_ni, FL.gAdd_in, FL.gSub_ni, FL.gSub_nn, FL.gSub_in, FL.gInt_n, FL.cEq_tN, FL.cNe_tN, FL.cEq_lN, FL.sh_nilL, FL.sh_nilT, FL.gLen_tN, FL.gLen_tT, FL.gIx_tN, FL.gIx_tT, FL.items_tN, FL.items_tT, FL.ty_i, FL.ty_n, FL.ty_tN, FL.ty_tT, FL.kit_ii, FL.kit_ib, FL.kit_tt, FL.kit_lt, FL.same_tN, FL.same_l, FL.arr_n, FL.arr_c, List.getElem?_cons_zero, List.getElem?_cons_succ, List.set_cons_zero, List.set_cons_succ, List.length_cons, List.length_nil, List.map_cons, List.map_nil, List.cons_append, List.nil_append, Bool.not_true, Bool.not_false, if_true, if_false, Bool.false_eq_true, FL.R.bind, eq_self, and_self, decide_true, decide_false, Option.bind_some, Option.map_some, List.length_map, FL.wipeE, FL.backE, k1, k2, hi, k6, hT, k3, k7, k4, k8, k5, k9, k10]
  have hne := cNe_nil (sh_lT cs)
  by_cases c : cs = []
  · subst c
    refine ⟨.v (tTT ls), t4, t5, .v (.list (([] : List (List Nat)).map tN)), s7, s8, s9, s11, q3, hq3, ?_⟩
    rw [key _ _ _ _ _ _ _ false (.bad) hb (book_true h) (book_true hm) (book_true hrv) hc hCM hCR hL hne (fun e => by cases e)]
    rfl
  · obtain ⟨u7, u8, u9, u11, q4, hq4, hS⟩ := sBody_ok (s1 := .v (nD n)) (s4 := t4) (s5 := t5) (s7 := s7) (s8 := s8) (s9 := s9) (s11 := s11) h hq3 c lc wc
    refine ⟨.v (tTT ls), t4, t5, .v (.list (cs.map tN)), u7, u8, u9, u11, q4, hq4, ?_⟩
    have hne' : cNe (.list (cs.map tN)) (.list []) = some true := by
      rw [hne]
      cases cs with
      | nil => exact absurd rfl c
      | cons _ _ => rfl
    rw [key _ _ _ _ _ _ _ true _ hb (book_true h) (book_true hm) (book_true hrv) hc hCM hCR hL hne' (fun _ => hS)]
    rfl
theorem same_known : f__law_same [.list [.bool true, .bool true, .bool false, .bool false, .bool false, .bool true, .bool false, .bool true, .bool false, .bool false, .bool false], .list [.bool true, .bool true, .bool false, .bool false, .bool false, .bool true, .bool false, .bool true, .bool false, .bool false, .bool false]] none = .ok (.bool true) none := by kernel_rfl
def knw : List D := [.tuple [.tuple []], .tuple [.tuple [.int 1], .tuple [.int 0]], .tuple [.tuple [.int 1], .tuple []], .tuple [.tuple [.int 0]], .tuple [], .tuple [.tuple [], .tuple [], .tuple [], .tuple [], .tuple [], .tuple [], .tuple []], .tuple [.tuple [], .tuple [], .tuple [], .tuple [], .tuple [], .tuple [], .tuple [], .tuple []], .tuple [.tuple [.int 1, .int 2], .tuple [.int 2, .int 0], .tuple [.int 0, .int 1]], .tuple [.tuple [.int 1, .int 1], .tuple [.int 0]], .tuple [.tuple [.bool true], .tuple [.int 0]], .tuple [.tuple [.int 1], .tuple [.bool false]]]
def bks : List D := [.bool true, .bool true, .bool false, .bool false, .bool false, .bool true, .bool false, .bool true, .bool false, .bool false, .bool false]
theorem known_is : knw.map (fun d => f_is_book [d] none) = bks.map fun b => .ok b none := by kernel_rfl
abbrev X12 : B D := eL (eLst (eCons (eTup (eCons (eTup (eNil)) (eNil))) (eCons (eTup (eCons (eTup (eCons (eC (.int 1)) (eNil))) (eCons (eTup (eCons (eC (.int 0)) (eNil))) (eNil)))) (eCons (eTup (eCons (eTup (eCons (eC (.int 1)) (eNil))) (eCons (eTup (eNil)) (eNil)))) (eCons (eTup (eCons (eTup (eCons (eC (.int 0)) (eNil))) (eNil))) (eCons (eTup (eNil)) (eCons (e2 gMulT (eTup (eCons (eTup (eNil)) (eNil))) (eC (.int 7))) (eCons (e2 gMulT (eTup (eCons (eTup (eNil)) (eNil))) (eC (.int 8))) (eCons (eTup (eCons (eTup (eCons (eC (.int 1)) (eCons (eC (.int 2)) (eNil)))) (eCons (eTup (eCons (eC (.int 2)) (eCons (eC (.int 0)) (eNil)))) (eCons (eTup (eCons (eC (.int 0)) (eCons (eC (.int 1)) (eNil)))) (eNil))))) (eCons (eTup (eCons (eTup (eCons (eC (.int 1)) (eCons (eC (.int 1)) (eNil)))) (eCons (eTup (eCons (eC (.int 0)) (eNil))) (eNil)))) (eCons (eTup (eCons (eTup (eCons (eC (.bool true)) (eNil))) (eCons (eTup (eCons (eC (.int 0)) (eNil))) (eNil)))) (eCons (eTup (eCons (eTup (eCons (eC (.int 1)) (eNil))) (eCons (eTup (eCons (eC (.bool false)) (eNil))) (eNil)))) (eNil)))))))))))))
abbrev XB : B D := eL (eLst (eCons (eC (.bool true)) (eCons (eC (.bool true)) (eCons (eC (.bool false)) (eCons (eC (.bool false)) (eCons (eC (.bool false)) (eCons (eC (.bool true)) (eCons (eC (.bool false)) (eCons (eC (.bool true)) (eCons (eC (.bool false)) (eCons (eC (.bool false)) (eCons (eC (.bool false)) (eNil)))))))))))))
theorem X12_ok {s1 s2 s4 s5 s6 s7 s8 s9 s11 : Sl} {q : List Int} : X12 (RS s1 s2 s4 s5 s6 s7 s8 s9 s11 q) = .ok (.list knw) (RS s1 s2 s4 s5 s6 s7 s8 s9 s11 q) := by kernel_rfl
theorem zip_eq {α β γ : Type} (F : α → γ) (G : β → γ) : ∀ (l : List α) (m : List β), l.map F = m.map G → ∀ x ∈ l.zip m, F x.1 = G x.2
  | [], _, _ => fun x hx => by simp at hx
  | _ :: _, [], _ => fun x hx => by simp at hx
  | a :: l, b :: m, h => fun x hx => by
    simp only [List.map_cons, List.cons.injEq] at h
    rw [List.zip_cons_cons] at hx
    rcases List.mem_cons.mp hx with rfl | hx
    · exact h.1
    · exact zip_eq F G l m h.2 x hx
abbrev RS2 (s1 s2 s4 s5 s6 s7 s8 s9 s11 : Sl) (q : List Int) : S := ⟨[.v poolD, s1, s2, .no, s4, s5, s6, s7, s8, s9, .no, s11, .v (.list knw)], some q⟩
abbrev kC (I : Fn) : B (List D) := eLc (iItems (eV 12)) [10] (aN 10) (bYes) (eCall I (eCons (eV 10) (eNil)))
theorem kC_ok {s1 s2 s4 s5 s6 s7 s8 s9 s11 : Sl} {q : List Int} : kC f_is_book (RS2 s1 s2 s4 s5 s6 s7 s8 s9 s11 q) = .ok bks (RS2 s1 s2 s4 s5 s6 s7 s8 s9 s11 q) := by
  have e1 : bks = (knw.zip bks).filterMap fun x => some x.2 := by rfl
  have hf : iItems (eV 12) (RS2 s1 s2 s4 s5 s6 s7 s8 s9 s11 q) = .ok ((knw.zip bks).map Prod.fst) (RS2 s1 s2 s4 s5 s6 s7 s8 s9 s11 q) := by
    have : (knw.zip bks).map Prod.fst = knw := rfl
    rw [this]
    exact iItems_l rfl
  have h := eLc_filterA (fun x : D × D => x.1) (knw.zip bks) (fun x => some x.2) (own := [10]) (a := aN 10) (c := bYes) (g := eCall f_is_book (eCons (eV 10) (eNil))) hf (fun x hx => ⟨[.v poolD, s1, s2, .no, s4, s5, s6, s7, s8, s9, .v x.1, s11, .v (.list knw)], by
    have g := zip_eq _ _ _ _ known_is x hx
    have key : ∀ I : Fn, I [x.1] none = .ok x.2 none → turnB (aN 10) bYes (eCall I (eCons (eV 10) (eNil))) x.1 ⟨wipeE [.v poolD, s1, s2, .no, s4, s5, s6, s7, s8, s9, .no, s11, .v (.list knw)] [10], some q⟩ = .ok (some x.2) ⟨[.v poolD, s1, s2, .no, s4, s5, s6, s7, s8, s9, .v x.1, s11, .v (.list knw)], some q⟩ := by
      intro I hI
      simp (config := { implicitDefEqProofs := false }) only [FL.lift_a, FL.eC_a, FL.eV_a, FL.eN_a, FL.eP_p, FL.rd_d, FL.rd_i, FL.rd_p, FL.toSrc_a, FL.e1_a, FL.e2_a, FL.eCmp_a, FL.eBool_a, FL.eChain_a, FL.eChain_t, FL.pure_a, FL.eTruth_a, FL.bNot_a, FL.bAnd_a, FL.bOr_a, FL.bYes_a, FL.eIf_a, FL.vAnd_a, FL.vOr_a, FL.asBool_a, FL.eNil_a, FL.eCons_a, FL.eTup_a, FL.eLst_a, FL.eL_a, FL.eIx_a, FL.eSl_a, FL.pNo_a, FL.pSo_a, FL.asInt_a, FL.sNil_a, FL.sCons_a, FL.rdA_n, FL.rdA_c, FL.eCall1_a, FL.eCallL_a, FL.eIsi_a, FL.eM1_a, FL.sSeq_a, FL.sSeqL_a, FL.sIfL_a, FL.sNx_a, FL.sBk_a, FL.sCt_a, FL.sRet_a, FL.sRetN_a, FL.sDrop_a, FL.sIf_a, FL.aN_a, FL.aNil_a, FL.aCons_a, FL.aTup_a, FL.aPool_0, FL.aPool_1, FL.aPool_2, FL.sSet_a, FL.sSetO_a, FL.sAsg_a, FL.sApp_a, FL.sExt_a, FL.ePop_a, FL.sStore_a, FL.aSub_a, FL.ownAt_a, FL.putAt_a, FL.sPar_a, FL.mNil_a, FL.mV_a, FL.mO_a, FL.setAll_c, FL.setAll_n, FL.eDm_a, FL.eCall_a, FL.eCallP_a, FL.eCallO_a, FL.eCallOP_a, FL.arrB_a, FL.iEn_a, FL.turn_a, FL.fnB_a, FL.fnL_a, FL.rep_s, FL.rep_z, FL.few_z, FL.few_1, FL.few_2, FL.few_3, FL.gAdd_i, FL.gSub_i, FL.cLt_i, FL.cLe_i, FL.cGt_i, FL.cGe_i, FL.cEq_i, FL.cNe_i, FL.cEq_str, FL.cNe_str, FL.eqv_b, FL.cEq_b, FL.truth_b, FL.truth_i, FL.truth_l, FL.truth_t, FL.gLen_l, FL.gLen_t, FL.gInt_i, FL.gTup_l, FL.gTup_t, FL.items_l, FL.items_t, FL.cIs_b, FL.gIx_l0, FL.gIx_l1, FL.gIx_l2, FL.gIx_t0, FL.gIx_t1, FL.gIx_t2, FL.cLt_n, FL.cLt_ni, FL.cLt_in, FL.cLe_n, FL.cLe_ni, FL.cLe_in, FL.cGt_n, FL.cGt_ni, FL.cGe_n, FL.cGe_ni, FL.cEq_n, FL.cEq_ni, FL.cEq_in, FL.cNe_n, FL.cNe_ni, FL.gAdd_n, FL.gAdd_ni, FL.gAdd_in, FL.gSub_ni, FL.gSub_nn, FL.gSub_in, FL.gInt_n, FL.cEq_tN, FL.cNe_tN, FL.cEq_lN, FL.sh_nilL, FL.sh_nilT, FL.gLen_tN, FL.gLen_tT, FL.gIx_tN, FL.gIx_tT, FL.items_tN, FL.items_tT, FL.ty_i, FL.ty_n, FL.ty_tN, FL.ty_tT, FL.kit_ii, FL.kit_ib, FL.kit_tt, FL.kit_lt, FL.same_tN, FL.same_l, FL.arr_n, FL.arr_c, List.getElem?_cons_zero, List.getElem?_cons_succ, List.set_cons_zero, List.set_cons_succ, List.length_cons, List.length_nil, List.map_cons, List.map_nil, List.cons_append, List.nil_append, Bool.not_true, Bool.not_false, if_true, if_false, Bool.false_eq_true, FL.R.bind, eq_self, and_self, decide_true, decide_false, Option.bind_some, Option.map_some, List.length_map, FL.wipeE, FL.backE, hI]
    exact key _ g, rfl⟩) (by rw [sizeLine_eq]; decide)
  rw [← e1] at h
  exact h
theorem right_ok {q : List Int} (hq : PoolOk q) : ∃ q', f__law_right [poolD] (some q) = .ok (.bool true) (some q') := by
  have hf : iItems (eL (eLst (eCons (eC (.int 1)) (eCons (eC (.int 2)) (eCons (eC (.int 3)) (eCons (eC (.int 3)) (eCons (eC (.int 4)) (eCons (eC (.int 5)) (eCons (eC (.int 6)) (eCons (eC (.int 7)) (eNil))))))))))) (RS .no .no .no .no .no .no .no .no .no q) = .ok ([1, 2, 3, 3, 4, 5, 6, 7].map nD) (RS .no .no .no .no .no .no .no .no .no q) := iItems_l rfl
  obtain ⟨s', h1, h2⟩ := sFor_inv (a := aN 1) (g := manyB f__law_book f_is_book f__law_couples (mxC f__law_mixed) rvC LV (sBody f__law_pick f__law_put f_is_book f__law_same (oneC 7 8) (oneC 8 7))) (fun i s => ∃ s1 s2 s4 s5 s6 s7 s8 s9 s11 q, s = RS s1 s2 s4 s5 s6 s7 s8 s9 s11 q ∧ PoolOk q) hf ⟨_, _, _, _, _, _, _, _, _, q, rfl, hq⟩ (fun i d s hd hs => by
    obtain ⟨s1, s2, s4, s5, s6, s7, s8, s9, s11, q, rfl, hq⟩ := hs
    rw [List.getElem?_map] at hd
    obtain ⟨n, hn, rfl⟩ := Option.map_eq_some_iff.mp hd
    have hm := List.mem_of_getElem? hn
    have hn2 : 1 ≤ n ∧ n ≤ 7 := by
      simp only [List.mem_cons, List.not_mem_nil, or_false] at hm
      omega
    obtain ⟨t2, t4, t5, t6, t7, t8, t9, t11, q', hq', hb⟩ := many_ok (s2 := s2) (s4 := s4) (s5 := s5) (s6 := s6) (s7 := s7) (s8 := s8) (s9 := s9) (s11 := s11) hn2.1 hn2.2 hq
    exact ⟨_, _, rfl, .inl hb, _, _, _, _, _, _, _, _, _, q', rfl, hq'⟩)
  obtain ⟨s1, s2, s4, s5, s6, s7, s8, s9, s11, q', rfl, hq'⟩ := h2
  refine ⟨q', ?_⟩
  have hX := X12_ok (s1 := s1) (s2 := s2) (s4 := s4) (s5 := s5) (s6 := s6) (s7 := s7) (s8 := s8) (s9 := s9) (s11 := s11) (q := q')
  have hC := kC_ok (s1 := s1) (s2 := s2) (s4 := s4) (s5 := s5) (s6 := s6) (s7 := s7) (s8 := s8) (s9 := s9) (s11 := s11) (q := q')
  have hB : XB (RS2 s1 s2 s4 s5 s6 s7 s8 s9 s11 q') = .ok (.list bks) (RS2 s1 s2 s4 s5 s6 s7 s8 s9 s11 q') := by kernel_rfl
  have hs : f__law_same [.list bks, .list bks] none = .ok (.bool true) none := same_known
  revert hX hC hB hs
  unfold RS2
  generalize knw = kn
  generalize bks = bk
  intro hX hC hB hs
  have key : ∀ (L : B Fl) (A Bb : B D) (C : B (List D)) (S' : Fn), L ⟨[.v poolD, .no, .no, .no, .no, .no, .no, .no, .no, .no, .no, .no, .no], some q⟩ = .ok .nx (RS s1 s2 s4 s5 s6 s7 s8 s9 s11 q') → A (RS s1 s2 s4 s5 s6 s7 s8 s9 s11 q') = .ok (.list kn) (RS s1 s2 s4 s5 s6 s7 s8 s9 s11 q') →
      C ⟨[.v poolD, s1, s2, .no, s4, s5, s6, s7, s8, s9, .no, s11, .v (.list kn)], some q'⟩ = .ok bk ⟨[.v poolD, s1, s2, .no, s4, s5, s6, s7, s8, s9, .no, s11, .v (.list kn)], some q'⟩ → Bb ⟨[.v poolD, s1, s2, .no, s4, s5, s6, s7, s8, s9, .no, s11, .v (.list kn)], some q'⟩ = .ok (.list bk) ⟨[.v poolD, s1, s2, .no, s4, s5, s6, s7, s8, s9, .no, s11, .v (.list kn)], some q'⟩ →
      S' [.list bk, .list bk] none = .ok (.bool true) none → fnB 1 13 (sSeq L (sSeq (sSet 12 A) (sRet (eCall S' (eCons (eL C) (eCons Bb (eNil))))))) [poolD] (some q) = .ok (.bool true) (some q') := by
    intro L A Bb C S' g1 g2 g3 g4 g5
    simp only [RS] at g1 g2
    simp (config := { implicitDefEqProofs := false }) only [FL.lift_a, FL.eC_a, FL.eV_a, FL.eN_a, FL.eP_p, FL.rd_d, FL.rd_i, FL.rd_p, FL.toSrc_a, FL.e1_a, FL.e2_a, FL.eCmp_a, FL.eBool_a, FL.eChain_a, FL.eChain_t, FL.pure_a, FL.eTruth_a, FL.bNot_a, FL.bAnd_a, FL.bOr_a, FL.bYes_a, FL.eIf_a, FL.vAnd_a, FL.vOr_a, FL.asBool_a, FL.eNil_a, FL.eCons_a, FL.eTup_a, FL.eLst_a, FL.eL_a, FL.eIx_a, FL.eSl_a, FL.pNo_a, FL.pSo_a, FL.asInt_a, FL.sNil_a, FL.sCons_a, FL.rdA_n, FL.rdA_c, FL.eCall1_a, FL.eCallL_a, FL.eIsi_a, FL.eM1_a, FL.sSeq_a, FL.sSeqL_a, FL.sIfL_a, FL.sNx_a, FL.sBk_a, FL.sCt_a, FL.sRet_a, FL.sRetN_a, FL.sDrop_a, FL.sIf_a, FL.aN_a, FL.aNil_a, FL.aCons_a, FL.aTup_a, FL.aPool_0, FL.aPool_1, FL.aPool_2, FL.sSet_a, FL.sSetO_a, FL.sAsg_a, FL.sApp_a, FL.sExt_a, FL.ePop_a, FL.sStore_a, FL.aSub_a, FL.ownAt_a, FL.putAt_a, FL.sPar_a, FL.mNil_a, FL.mV_a, FL.mO_a, FL.setAll_c, FL.setAll_n, FL.eDm_a, FL.eCall_a, FL.eCallP_a, FL.eCallO_a, FL.eCallOP_a, FL.arrB_a, FL.iEn_a, FL.turn_a, FL.fnB_a, FL.fnL_a, FL.rep_s, FL.rep_z, FL.few_z, FL.few_1, FL.few_2, FL.few_3, FL.gAdd_i, FL.gSub_i, FL.cLt_i, FL.cLe_i, FL.cGt_i, FL.cGe_i, FL.cEq_i, FL.cNe_i, FL.cEq_str, FL.cNe_str, FL.eqv_b, FL.cEq_b, FL.truth_b, FL.truth_i, FL.truth_l, FL.truth_t, FL.gLen_l, FL.gLen_t, FL.gInt_i, FL.gTup_l, FL.gTup_t, FL.items_l, FL.items_t, FL.cIs_b, FL.gIx_l0, FL.gIx_l1, FL.gIx_l2, FL.gIx_t0, FL.gIx_t1, FL.gIx_t2, FL.cLt_n, FL.cLt_ni, FL.cLt_in, FL.cLe_n, FL.cLe_ni, FL.cLe_in, FL.cGt_n, FL.cGt_ni, FL.cGe_n, FL.cGe_ni, FL.cEq_n, FL.cEq_ni, FL.cEq_in, FL.cNe_n, FL.cNe_ni, FL.gAdd_n, FL.gAdd_ni, FL.gAdd_in, FL.gSub_ni, FL.gSub_nn, FL.gSub_in, FL.gInt_n, FL.cEq_tN, FL.cNe_tN, FL.cEq_lN, FL.sh_nilL, FL.sh_nilT, FL.gLen_tN, FL.gLen_tT, FL.gIx_tN, FL.gIx_tT, FL.items_tN, FL.items_tT, FL.ty_i, FL.ty_n, FL.ty_tN, FL.ty_tT, FL.kit_ii, FL.kit_ib, FL.kit_tt, FL.kit_lt, FL.same_tN, FL.same_l, FL.arr_n, FL.arr_c, List.getElem?_cons_zero, List.getElem?_cons_succ, List.set_cons_zero, List.set_cons_succ, List.length_cons, List.length_nil, List.map_cons, List.map_nil, List.cons_append, List.nil_append, Bool.not_true, Bool.not_false, if_true, if_false, Bool.false_eq_true, FL.R.bind, eq_self, and_self, decide_true, decide_false, Option.bind_some, Option.map_some, List.length_map, FL.wipeE, FL.backE, g1, g2, g3, g4, g5]
  exact key _ _ _ _ _ h1 hX hC hB hs
end M
set_option maxHeartbeats 4000000
/-! k03: the pool, the law. -/
namespace M
open PySem PySem.Spec PyProof.Rows L2 FL
theorem gLen_s {ds : List D} : gLen [scrD ds] = some (nD ds.length) := rfl
theorem gIx_s (ds : List D) (i : Nat) : gIx (scrD ds) (nD i) = ds[i]? := gIx_t ds i
theorem gSl_s {ds : List D} {lo hi : Option Int} : gSl lo hi (scrD ds) = some (.list (FL.cut ds lo hi)) := rfl
theorem cut_mem {α : Type} {xs : List α} {lo hi : Option Int} {x : α} (h : x ∈ FL.cut xs lo hi) : x ∈ xs := List.mem_of_mem_drop (List.mem_of_mem_take h)
theorem gPow_i {a b : Int} (h : L2.CPow a b) : gPow (.int a) (.int b) = some (.int (a ^ b.toNat)) := if_pos h
theorem gPow_1018 : gPow (.int 10) (.int 18) = some (.int 1000000000000000000) :=
  (gPow_i ⟨by decide, by decide, by decide⟩).trans (congrArg (fun x => some (PyData.int x)) (by decide +kernel))
theorem gAbs_i {i : Int} : gAbs [.int i] = some (.int (if i < 0 then -i else i)) := rfl
abbrev MM : Int := 2147483563
abbrev pBody : B Fl := (sSet 3 (e2 gMod (eCall1 gInt (sCons (toSrc (e2 gAdd (e2 gAdd (e2 gMul (eV 3) (eC (.int 48271))) (e2 gMod (eCall1 gInt (sCons (eN 4) (sNil))) (eC (.int 2147483563)))) (eC (.int 2093)))) (sNil))) (eC (.int 2147483563))))
theorem pool_step {a b c : D} {s z : Int} (h0 : 0 ≤ s) (h1 : s < 2147483563) : ∃ s', 0 ≤ s' ∧ s' < 2147483563 ∧ pBody ⟨[.v a, .v b, .v c, .v (.int s), .v (.int z)], none⟩ = .ok .nx ⟨[.v a, .v b, .v c, .v (.int s'), .v (.int z)], none⟩ := by
  have hm : ∀ x : Int, x.fmod 2147483563 = x % 2147483563 := fun x => Int.fmod_eq_emod_of_nonneg _ (by omega)
  refine ⟨(s * 48271 + z.fmod 2147483563 + 2093).fmod 2147483563, by rw [hm]; exact Int.emod_nonneg _ (by omega), by rw [hm]; exact Int.emod_lt_of_pos _ (by omega), ?_⟩
  have hc : L2.CMul s 48271 := mul_c h0 h1
  have hne : (2147483563 : Int) ≠ 0 := by decide
  simp (config := { implicitDefEqProofs := false }) only [pBody, FL.lift_a, FL.eC_a, FL.eV_a, FL.eN_a, FL.eP_p, FL.rd_d, FL.rd_i, FL.rd_p, FL.toSrc_a, FL.e1_a, FL.e2_a, FL.eCmp_a, FL.eBool_a, FL.eChain_a, FL.eChain_t, FL.pure_a, FL.eTruth_a, FL.bNot_a, FL.bAnd_a, FL.bOr_a, FL.bYes_a, FL.eIf_a, FL.vAnd_a, FL.vOr_a, FL.asBool_a, FL.eNil_a, FL.eCons_a, FL.eTup_a, FL.eLst_a, FL.eL_a, FL.eIx_a, FL.eSl_a, FL.pNo_a, FL.pSo_a, FL.asInt_a, FL.sNil_a, FL.sCons_a, FL.rdA_n, FL.rdA_c, FL.eCall1_a, FL.eCallL_a, FL.eIsi_a, FL.eM1_a, FL.sSeq_a, FL.sSeqL_a, FL.sIfL_a, FL.sNx_a, FL.sBk_a, FL.sCt_a, FL.sRet_a, FL.sRetN_a, FL.sDrop_a, FL.sIf_a, FL.aN_a, FL.aNil_a, FL.aCons_a, FL.aTup_a, FL.aPool_0, FL.aPool_1, FL.aPool_2, FL.sSet_a, FL.sSetO_a, FL.sAsg_a, FL.sApp_a, FL.sExt_a, FL.ePop_a, FL.sStore_a, FL.aSub_a, FL.ownAt_a, FL.putAt_a, FL.sPar_a, FL.mNil_a, FL.mV_a, FL.mO_a, FL.setAll_c, FL.setAll_n, FL.eDm_a, FL.eCall_a, FL.eCallP_a, FL.eCallO_a, FL.eCallOP_a, FL.arrB_a, FL.iEn_a, FL.turn_a, FL.fnB_a, FL.fnL_a, FL.rep_s, FL.rep_z, FL.few_z, FL.few_1, FL.few_2, FL.few_3, FL.gAdd_i, FL.gSub_i, FL.cLt_i, FL.cLe_i, FL.cGt_i, FL.cGe_i, FL.cEq_i, FL.cNe_i, FL.cEq_str, FL.cNe_str, FL.eqv_b, FL.cEq_b, FL.truth_b, FL.truth_i, FL.truth_l, FL.truth_t, FL.gLen_l, FL.gLen_t, FL.gInt_i, FL.gTup_l, FL.gTup_t, FL.items_l, FL.items_t, FL.cIs_b, FL.gIx_l0, FL.gIx_l1, FL.gIx_l2, FL.gIx_t0, FL.gIx_t1, FL.gIx_t2, FL.cLt_n, FL.cLt_ni, FL.cLt_in, FL.cLe_n, FL.cLe_ni, FL.cLe_in, FL.cGt_n, FL.cGt_ni, FL.cGe_n, FL.cGe_ni, FL.cEq_n, FL.cEq_ni, FL.cEq_in, FL.cNe_n, FL.cNe_ni, FL.gAdd_n, FL.gAdd_ni, FL.gAdd_in, FL.gSub_ni, FL.gSub_nn, FL.gSub_in, FL.gInt_n, FL.cEq_tN, FL.cNe_tN, FL.cEq_lN, FL.sh_nilL, FL.sh_nilT, FL.gLen_tN, FL.gLen_tT, FL.gIx_tN, FL.gIx_tT, FL.items_tN, FL.items_tT, FL.ty_i, FL.ty_n, FL.ty_tN, FL.ty_tT, FL.kit_ii, FL.kit_ib, FL.kit_tt, FL.kit_lt, FL.same_tN, FL.same_l, FL.arr_n, FL.arr_c, List.getElem?_cons_zero, List.getElem?_cons_succ, List.set_cons_zero, List.set_cons_succ, List.length_cons, List.length_nil, List.map_cons, List.map_nil, List.cons_append, List.nil_append, Bool.not_true, Bool.not_false, if_true, if_false, Bool.false_eq_true, FL.R.bind, eq_self, and_self, decide_true, decide_false, Option.bind_some, Option.map_some, List.length_map, FL.wipeE, FL.backE, gMod_i hne, gMul_i hc]
theorem pool_ok {ns : List Int} (hl : ns.length ≤ 63) {i : Nat} (hi : i ≤ 3) : ∃ ps, PoolOk ps ∧ f__law_pool [scrD (ns.map PyData.int), nD i] none = .ok (ps.map PyData.int) none := by
  have hm : ∀ x : Int, x.fmod 2147483563 = x % 2147483563 := fun x => Int.fmod_eq_emod_of_nonneg _ (by omega)
  have hne : (2147483563 : Int) ≠ 0 := by decide
  have hc1 : L2.CMul 70001 i := mul_c (by omega) (by omega)
  have hc2 : L2.CMul 5087 i := mul_c (by omega) (by omega)
  -- own
  have hown : ∃ own : Int, eIf (eCmp cLt (eN 1) (toSrc (eCall1 gLen (sCons (eN 0) (sNil))))) (eCall1 gInt (sCons (toSrc (eIx (eN 0) (eV 1))) (sNil))) (e2 gAdd (e2 gMul (eC (.int 70001)) (eV 1)) (eC (.int 16319))) ⟨[.v (scrD (ns.map PyData.int)), .v (nD i), .no, .no, .no], none⟩ = .ok (.int own) ⟨[.v (scrD (ns.map PyData.int)), .v (nD i), .no, .no, .no], none⟩ := by
    by_cases h : i < ns.length
    · have hg : ns[i]? = some ns[i] := List.getElem?_eq_getElem h
      refine ⟨ns[i], ?_⟩
      simp (config := { implicitDefEqProofs := false }) only [FL.lift_a, FL.eC_a, FL.eV_a, FL.eN_a, FL.eP_p, FL.rd_d, FL.rd_i, FL.rd_p, FL.toSrc_a, FL.e1_a, FL.e2_a, FL.eCmp_a, FL.eBool_a, FL.eChain_a, FL.eChain_t, FL.pure_a, FL.eTruth_a, FL.bNot_a, FL.bAnd_a, FL.bOr_a, FL.bYes_a, FL.eIf_a, FL.vAnd_a, FL.vOr_a, FL.asBool_a, FL.eNil_a, FL.eCons_a, FL.eTup_a, FL.eLst_a, FL.eL_a, FL.eIx_a, FL.eSl_a, FL.pNo_a, FL.pSo_a, FL.asInt_a, FL.sNil_a, FL.sCons_a, FL.rdA_n, FL.rdA_c, FL.eCall1_a, FL.eCallL_a, FL.eIsi_a, FL.eM1_a, FL.sSeq_a, FL.sSeqL_a, FL.sIfL_a, FL.sNx_a, FL.sBk_a, FL.sCt_a, FL.sRet_a, FL.sRetN_a, FL.sDrop_a, FL.sIf_a, FL.aN_a, FL.aNil_a, FL.aCons_a, FL.aTup_a, FL.aPool_0, FL.aPool_1, FL.aPool_2, FL.sSet_a, FL.sSetO_a, FL.sAsg_a, FL.sApp_a, FL.sExt_a, FL.ePop_a, FL.sStore_a, FL.aSub_a, FL.ownAt_a, FL.putAt_a, FL.sPar_a, FL.mNil_a, FL.mV_a, FL.mO_a, FL.setAll_c, FL.setAll_n, FL.eDm_a, FL.eCall_a, FL.eCallP_a, FL.eCallO_a, FL.eCallOP_a, FL.arrB_a, FL.iEn_a, FL.turn_a, FL.fnB_a, FL.fnL_a, FL.rep_s, FL.rep_z, FL.few_z, FL.few_1, FL.few_2, FL.few_3, FL.gAdd_i, FL.gSub_i, FL.cLt_i, FL.cLe_i, FL.cGt_i, FL.cGe_i, FL.cEq_i, FL.cNe_i, FL.cEq_str, FL.cNe_str, FL.eqv_b, FL.cEq_b, FL.truth_b, FL.truth_i, FL.truth_l, FL.truth_t, FL.gLen_l, FL.gLen_t, FL.gInt_i, FL.gTup_l, FL.gTup_t, FL.items_l, FL.items_t, FL.cIs_b, FL.gIx_l0, FL.gIx_l1, FL.gIx_l2, FL.gIx_t0, FL.gIx_t1, FL.gIx_t2, FL.cLt_n, FL.cLt_ni, FL.cLt_in, FL.cLe_n, FL.cLe_ni, FL.cLe_in, FL.cGt_n, FL.cGt_ni, FL.cGe_n, FL.cGe_ni, FL.cEq_n, FL.cEq_ni, FL.cEq_in, FL.cNe_n, FL.cNe_ni, FL.gAdd_n, FL.gAdd_ni, FL.gAdd_in, FL.gSub_ni, FL.gSub_nn, FL.gSub_in, FL.gInt_n, FL.cEq_tN, FL.cNe_tN, FL.cEq_lN, FL.sh_nilL, FL.sh_nilT, FL.gLen_tN, FL.gLen_tT, FL.gIx_tN, FL.gIx_tT, FL.items_tN, FL.items_tT, FL.ty_i, FL.ty_n, FL.ty_tN, FL.ty_tT, FL.kit_ii, FL.kit_ib, FL.kit_tt, FL.kit_lt, FL.same_tN, FL.same_l, FL.arr_n, FL.arr_c, List.getElem?_cons_zero, List.getElem?_cons_succ, List.set_cons_zero, List.set_cons_succ, List.length_cons, List.length_nil, List.map_cons, List.map_nil, List.cons_append, List.nil_append, Bool.not_true, Bool.not_false, if_true, if_false, Bool.false_eq_true, FL.R.bind, eq_self, and_self, decide_true, decide_false, Option.bind_some, Option.map_some, List.length_map, FL.wipeE, FL.backE, gLen_s, gIx_s, h, List.getElem?_map, hg]
    · refine ⟨70001 * i + 16319, ?_⟩
      have hg : gMul (.int 70001) (nD i) = some (.int (70001 * i)) := gMul_i hc1
      simp (config := { implicitDefEqProofs := false }) only [FL.lift_a, FL.eC_a, FL.eV_a, FL.eN_a, FL.eP_p, FL.rd_d, FL.rd_i, FL.rd_p, FL.toSrc_a, FL.e1_a, FL.e2_a, FL.eCmp_a, FL.eBool_a, FL.eChain_a, FL.eChain_t, FL.pure_a, FL.eTruth_a, FL.bNot_a, FL.bAnd_a, FL.bOr_a, FL.bYes_a, FL.eIf_a, FL.vAnd_a, FL.vOr_a, FL.asBool_a, FL.eNil_a, FL.eCons_a, FL.eTup_a, FL.eLst_a, FL.eL_a, FL.eIx_a, FL.eSl_a, FL.pNo_a, FL.pSo_a, FL.asInt_a, FL.sNil_a, FL.sCons_a, FL.rdA_n, FL.rdA_c, FL.eCall1_a, FL.eCallL_a, FL.eIsi_a, FL.eM1_a, FL.sSeq_a, FL.sSeqL_a, FL.sIfL_a, FL.sNx_a, FL.sBk_a, FL.sCt_a, FL.sRet_a, FL.sRetN_a, FL.sDrop_a, FL.sIf_a, FL.aN_a, FL.aNil_a, FL.aCons_a, FL.aTup_a, FL.aPool_0, FL.aPool_1, FL.aPool_2, FL.sSet_a, FL.sSetO_a, FL.sAsg_a, FL.sApp_a, FL.sExt_a, FL.ePop_a, FL.sStore_a, FL.aSub_a, FL.ownAt_a, FL.putAt_a, FL.sPar_a, FL.mNil_a, FL.mV_a, FL.mO_a, FL.setAll_c, FL.setAll_n, FL.eDm_a, FL.eCall_a, FL.eCallP_a, FL.eCallO_a, FL.eCallOP_a, FL.arrB_a, FL.iEn_a, FL.turn_a, FL.fnB_a, FL.fnL_a, FL.rep_s, FL.rep_z, FL.few_z, FL.few_1, FL.few_2, FL.few_3, FL.gAdd_i, FL.gSub_i, FL.cLt_i, FL.cLe_i, FL.cGt_i, FL.cGe_i, FL.cEq_i, FL.cNe_i, FL.cEq_str, FL.cNe_str, FL.eqv_b, FL.cEq_b, FL.truth_b, FL.truth_i, FL.truth_l, FL.truth_t, FL.gLen_l, FL.gLen_t, FL.gInt_i, FL.gTup_l, FL.gTup_t, FL.items_l, FL.items_t, FL.cIs_b, FL.gIx_l0, FL.gIx_l1, FL.gIx_l2, FL.gIx_t0, FL.gIx_t1, FL.gIx_t2, FL.cLt_n, FL.cLt_ni, FL.cLt_in, FL.cLe_n, FL.cLe_ni, FL.cLe_in, FL.cGt_n, FL.cGt_ni, FL.cGe_n, FL.cGe_ni, FL.cEq_n, FL.cEq_ni, FL.cEq_in, FL.cNe_n, FL.cNe_ni, FL.gAdd_n, FL.gAdd_ni, FL.gAdd_in, FL.gSub_ni, FL.gSub_nn, FL.gSub_in, FL.gInt_n, FL.cEq_tN, FL.cNe_tN, FL.cEq_lN, FL.sh_nilL, FL.sh_nilT, FL.gLen_tN, FL.gLen_tT, FL.gIx_tN, FL.gIx_tT, FL.items_tN, FL.items_tT, FL.ty_i, FL.ty_n, FL.ty_tN, FL.ty_tT, FL.kit_ii, FL.kit_ib, FL.kit_tt, FL.kit_lt, FL.same_tN, FL.same_l, FL.arr_n, FL.arr_c, List.getElem?_cons_zero, List.getElem?_cons_succ, List.set_cons_zero, List.set_cons_succ, List.length_cons, List.length_nil, List.map_cons, List.map_nil, List.cons_append, List.nil_append, Bool.not_true, Bool.not_false, if_true, if_false, Bool.false_eq_true, FL.R.bind, eq_self, and_self, decide_true, decide_false, Option.bind_some, Option.map_some, List.length_map, FL.wipeE, FL.backE, gLen_s, h, hg]
  obtain ⟨own, hown⟩ := hown
  have hg2 : gMul (.int 5087) (nD i) = some (.int (5087 * i)) := gMul_i hc2
  -- the loop
  obtain ⟨s', l1, l2⟩ := sFor_inv (fi := iItems (eSl (eN 0) (pNo) (pSo (eC (.int 63))))) (a := aN 4) (g := pBody) (s := ⟨[.v (scrD (ns.map PyData.int)), .v (nD i), .v (.int own), .v (.int (2144653 + 5087 * i)), .no], none⟩) (ds := FL.cut (ns.map PyData.int) none (some 63))
    (fun _ st => ∃ s c, st = ⟨[.v (scrD (ns.map PyData.int)), .v (nD i), .v (.int own), .v (.int s), c], none⟩ ∧ 0 ≤ s ∧ s < 2147483563) (s1 := ⟨[.v (scrD (ns.map PyData.int)), .v (nD i), .v (.int own), .v (.int (2144653 + 5087 * i)), .no], none⟩)
    (iItems_l (by simp (config := { implicitDefEqProofs := false }) only [FL.lift_a, FL.eC_a, FL.eV_a, FL.eN_a, FL.eP_p, FL.rd_d, FL.rd_i, FL.rd_p, FL.toSrc_a, FL.e1_a, FL.e2_a, FL.eCmp_a, FL.eBool_a, FL.eChain_a, FL.eChain_t, FL.pure_a, FL.eTruth_a, FL.bNot_a, FL.bAnd_a, FL.bOr_a, FL.bYes_a, FL.eIf_a, FL.vAnd_a, FL.vOr_a, FL.asBool_a, FL.eNil_a, FL.eCons_a, FL.eTup_a, FL.eLst_a, FL.eL_a, FL.eIx_a, FL.eSl_a, FL.pNo_a, FL.pSo_a, FL.asInt_a, FL.sNil_a, FL.sCons_a, FL.rdA_n, FL.rdA_c, FL.eCall1_a, FL.eCallL_a, FL.eIsi_a, FL.eM1_a, FL.sSeq_a, FL.sSeqL_a, FL.sIfL_a, FL.sNx_a, FL.sBk_a, FL.sCt_a, FL.sRet_a, FL.sRetN_a, FL.sDrop_a, FL.sIf_a, FL.aN_a, FL.aNil_a, FL.aCons_a, FL.aTup_a, FL.aPool_0, FL.aPool_1, FL.aPool_2, FL.sSet_a, FL.sSetO_a, FL.sAsg_a, FL.sApp_a, FL.sExt_a, FL.ePop_a, FL.sStore_a, FL.aSub_a, FL.ownAt_a, FL.putAt_a, FL.sPar_a, FL.mNil_a, FL.mV_a, FL.mO_a, FL.setAll_c, FL.setAll_n, FL.eDm_a, FL.eCall_a, FL.eCallP_a, FL.eCallO_a, FL.eCallOP_a, FL.arrB_a, FL.iEn_a, FL.turn_a, FL.fnB_a, FL.fnL_a, FL.rep_s, FL.rep_z, FL.few_z, FL.few_1, FL.few_2, FL.few_3, FL.gAdd_i, FL.gSub_i, FL.cLt_i, FL.cLe_i, FL.cGt_i, FL.cGe_i, FL.cEq_i, FL.cNe_i, FL.cEq_str, FL.cNe_str, FL.eqv_b, FL.cEq_b, FL.truth_b, FL.truth_i, FL.truth_l, FL.truth_t, FL.gLen_l, FL.gLen_t, FL.gInt_i, FL.gTup_l, FL.gTup_t, FL.items_l, FL.items_t, FL.cIs_b, FL.gIx_l0, FL.gIx_l1, FL.gIx_l2, FL.gIx_t0, FL.gIx_t1, FL.gIx_t2, FL.cLt_n, FL.cLt_ni, FL.cLt_in, FL.cLe_n, FL.cLe_ni, FL.cLe_in, FL.cGt_n, FL.cGt_ni, FL.cGe_n, FL.cGe_ni, FL.cEq_n, FL.cEq_ni, FL.cEq_in, FL.cNe_n, FL.cNe_ni, FL.gAdd_n, FL.gAdd_ni, FL.gAdd_in, FL.gSub_ni, FL.gSub_nn, FL.gSub_in, FL.gInt_n, FL.cEq_tN, FL.cNe_tN, FL.cEq_lN, FL.sh_nilL, FL.sh_nilT, FL.gLen_tN, FL.gLen_tT, FL.gIx_tN, FL.gIx_tT, FL.items_tN, FL.items_tT, FL.ty_i, FL.ty_n, FL.ty_tN, FL.ty_tT, FL.kit_ii, FL.kit_ib, FL.kit_tt, FL.kit_lt, FL.same_tN, FL.same_l, FL.arr_n, FL.arr_c, List.getElem?_cons_zero, List.getElem?_cons_succ, List.set_cons_zero, List.set_cons_succ, List.length_cons, List.length_nil, List.map_cons, List.map_nil, List.cons_append, List.nil_append, Bool.not_true, Bool.not_false, if_true, if_false, Bool.false_eq_true, FL.R.bind, eq_self, and_self, decide_true, decide_false, Option.bind_some, Option.map_some, List.length_map, FL.wipeE, FL.backE, gSl_s])) ⟨_, _, rfl, by omega, by omega⟩ (fun k d st hd hk => by
      obtain ⟨s, c, rfl, h0, h1⟩ := hk
      obtain ⟨z, _, rfl⟩ := List.mem_map.mp (cut_mem (List.mem_of_getElem? hd))
      obtain ⟨s', g0, g1, g2⟩ := pool_step (a := scrD (ns.map PyData.int)) (b := nD i) (c := .int own) (z := z) h0 h1
      exact ⟨_, _, rfl, .inl g2, s', _, rfl, g0, g1⟩)
  obtain ⟨st, c, rfl, h0, h1⟩ := l2
  -- what is returned
  have hc3 : L2.CMul own 1013 := .inr ⟨by decide, by decide⟩
  have hab : ∃ ab : Int, 0 ≤ ab ∧ eIf (bOr (eCmp cLt (eN 2) (toSrc (eC (.int 0)))) (eCmp cGe (eN 2) (toSrc (e2 gPow (eC (.int 10)) (eC (.int 18)))))) (eCall1 gAbs (sCons (eN 2) (sNil))) (eC (.int 0)) ⟨[.v (scrD (ns.map PyData.int)), .v (nD i), .v (.int own), .v (.int st), c], none⟩ = .ok (.int ab) ⟨[.v (scrD (ns.map PyData.int)), .v (nD i), .v (.int own), .v (.int st), c], none⟩ := by
    by_cases g : own < 0
    · refine ⟨-own, by omega, ?_⟩
      simp (config := { implicitDefEqProofs := false }) only [FL.lift_a, FL.eC_a, FL.eV_a, FL.eN_a, FL.eP_p, FL.rd_d, FL.rd_i, FL.rd_p, FL.toSrc_a, FL.e1_a, FL.e2_a, FL.eCmp_a, FL.eBool_a, FL.eChain_a, FL.eChain_t, FL.pure_a, FL.eTruth_a, FL.bNot_a, FL.bAnd_a, FL.bOr_a, FL.bYes_a, FL.eIf_a, FL.vAnd_a, FL.vOr_a, FL.asBool_a, FL.eNil_a, FL.eCons_a, FL.eTup_a, FL.eLst_a, FL.eL_a, FL.eIx_a, FL.eSl_a, FL.pNo_a, FL.pSo_a, FL.asInt_a, FL.sNil_a, FL.sCons_a, FL.rdA_n, FL.rdA_c, FL.eCall1_a, FL.eCallL_a, FL.eIsi_a, FL.eM1_a, FL.sSeq_a, FL.sSeqL_a, FL.sIfL_a, FL.sNx_a, FL.sBk_a, FL.sCt_a, FL.sRet_a, FL.sRetN_a, FL.sDrop_a, FL.sIf_a, FL.aN_a, FL.aNil_a, FL.aCons_a, FL.aTup_a, FL.aPool_0, FL.aPool_1, FL.aPool_2, FL.sSet_a, FL.sSetO_a, FL.sAsg_a, FL.sApp_a, FL.sExt_a, FL.ePop_a, FL.sStore_a, FL.aSub_a, FL.ownAt_a, FL.putAt_a, FL.sPar_a, FL.mNil_a, FL.mV_a, FL.mO_a, FL.setAll_c, FL.setAll_n, FL.eDm_a, FL.eCall_a, FL.eCallP_a, FL.eCallO_a, FL.eCallOP_a, FL.arrB_a, FL.iEn_a, FL.turn_a, FL.fnB_a, FL.fnL_a, FL.rep_s, FL.rep_z, FL.few_z, FL.few_1, FL.few_2, FL.few_3, FL.gAdd_i, FL.gSub_i, FL.cLt_i, FL.cLe_i, FL.cGt_i, FL.cGe_i, FL.cEq_i, FL.cNe_i, FL.cEq_str, FL.cNe_str, FL.eqv_b, FL.cEq_b, FL.truth_b, FL.truth_i, FL.truth_l, FL.truth_t, FL.gLen_l, FL.gLen_t, FL.gInt_i, FL.gTup_l, FL.gTup_t, FL.items_l, FL.items_t, FL.cIs_b, FL.gIx_l0, FL.gIx_l1, FL.gIx_l2, FL.gIx_t0, FL.gIx_t1, FL.gIx_t2, FL.cLt_n, FL.cLt_ni, FL.cLt_in, FL.cLe_n, FL.cLe_ni, FL.cLe_in, FL.cGt_n, FL.cGt_ni, FL.cGe_n, FL.cGe_ni, FL.cEq_n, FL.cEq_ni, FL.cEq_in, FL.cNe_n, FL.cNe_ni, FL.gAdd_n, FL.gAdd_ni, FL.gAdd_in, FL.gSub_ni, FL.gSub_nn, FL.gSub_in, FL.gInt_n, FL.cEq_tN, FL.cNe_tN, FL.cEq_lN, FL.sh_nilL, FL.sh_nilT, FL.gLen_tN, FL.gLen_tT, FL.gIx_tN, FL.gIx_tT, FL.items_tN, FL.items_tT, FL.ty_i, FL.ty_n, FL.ty_tN, FL.ty_tT, FL.kit_ii, FL.kit_ib, FL.kit_tt, FL.kit_lt, FL.same_tN, FL.same_l, FL.arr_n, FL.arr_c, List.getElem?_cons_zero, List.getElem?_cons_succ, List.set_cons_zero, List.set_cons_succ, List.length_cons, List.length_nil, List.map_cons, List.map_nil, List.cons_append, List.nil_append, Bool.not_true, Bool.not_false, if_true, if_false, Bool.false_eq_true, FL.R.bind, eq_self, and_self, decide_true, decide_false, Option.bind_some, Option.map_some, List.length_map, FL.wipeE, FL.backE, g, gAbs_i]
    · by_cases g2 : 1000000000000000000 ≤ own
      · refine ⟨own, by omega, ?_⟩
        simp (config := { implicitDefEqProofs := false }) only [FL.lift_a, FL.eC_a, FL.eV_a, FL.eN_a, FL.eP_p, FL.rd_d, FL.rd_i, FL.rd_p, FL.toSrc_a, FL.e1_a, FL.e2_a, FL.eCmp_a, FL.eBool_a, FL.eChain_a, FL.eChain_t, FL.pure_a, FL.eTruth_a, FL.bNot_a, FL.bAnd_a, FL.bOr_a, FL.bYes_a, FL.eIf_a, FL.vAnd_a, FL.vOr_a, FL.asBool_a, FL.eNil_a, FL.eCons_a, FL.eTup_a, FL.eLst_a, FL.eL_a, FL.eIx_a, FL.eSl_a, FL.pNo_a, FL.pSo_a, FL.asInt_a, FL.sNil_a, FL.sCons_a, FL.rdA_n, FL.rdA_c, FL.eCall1_a, FL.eCallL_a, FL.eIsi_a, FL.eM1_a, FL.sSeq_a, FL.sSeqL_a, FL.sIfL_a, FL.sNx_a, FL.sBk_a, FL.sCt_a, FL.sRet_a, FL.sRetN_a, FL.sDrop_a, FL.sIf_a, FL.aN_a, FL.aNil_a, FL.aCons_a, FL.aTup_a, FL.aPool_0, FL.aPool_1, FL.aPool_2, FL.sSet_a, FL.sSetO_a, FL.sAsg_a, FL.sApp_a, FL.sExt_a, FL.ePop_a, FL.sStore_a, FL.aSub_a, FL.ownAt_a, FL.putAt_a, FL.sPar_a, FL.mNil_a, FL.mV_a, FL.mO_a, FL.setAll_c, FL.setAll_n, FL.eDm_a, FL.eCall_a, FL.eCallP_a, FL.eCallO_a, FL.eCallOP_a, FL.arrB_a, FL.iEn_a, FL.turn_a, FL.fnB_a, FL.fnL_a, FL.rep_s, FL.rep_z, FL.few_z, FL.few_1, FL.few_2, FL.few_3, FL.gAdd_i, FL.gSub_i, FL.cLt_i, FL.cLe_i, FL.cGt_i, FL.cGe_i, FL.cEq_i, FL.cNe_i, FL.cEq_str, FL.cNe_str, FL.eqv_b, FL.cEq_b, FL.truth_b, FL.truth_i, FL.truth_l, FL.truth_t, FL.gLen_l, FL.gLen_t, FL.gInt_i, FL.gTup_l, FL.gTup_t, FL.items_l, FL.items_t, FL.cIs_b, FL.gIx_l0, FL.gIx_l1, FL.gIx_l2, FL.gIx_t0, FL.gIx_t1, FL.gIx_t2, FL.cLt_n, FL.cLt_ni, FL.cLt_in, FL.cLe_n, FL.cLe_ni, FL.cLe_in, FL.cGt_n, FL.cGt_ni, FL.cGe_n, FL.cGe_ni, FL.cEq_n, FL.cEq_ni, FL.cEq_in, FL.cNe_n, FL.cNe_ni, FL.gAdd_n, FL.gAdd_ni, FL.gAdd_in, FL.gSub_ni, FL.gSub_nn, FL.gSub_in, FL.gInt_n, FL.cEq_tN, FL.cNe_tN, FL.cEq_lN, FL.sh_nilL, FL.sh_nilT, FL.gLen_tN, FL.gLen_tT, FL.gIx_tN, FL.gIx_tT, FL.items_tN, FL.items_tT, FL.ty_i, FL.ty_n, FL.ty_tN, FL.ty_tT, FL.kit_ii, FL.kit_ib, FL.kit_tt, FL.kit_lt, FL.same_tN, FL.same_l, FL.arr_n, FL.arr_c, List.getElem?_cons_zero, List.getElem?_cons_succ, List.set_cons_zero, List.set_cons_succ, List.length_cons, List.length_nil, List.map_cons, List.map_nil, List.cons_append, List.nil_append, Bool.not_true, Bool.not_false, if_true, if_false, Bool.false_eq_true, FL.R.bind, eq_self, and_self, decide_true, decide_false, Option.bind_some, Option.map_some, List.length_map, FL.wipeE, FL.backE, g, gAbs_i, gPow_1018, g2]
      · refine ⟨0, by omega, ?_⟩
        simp (config := { implicitDefEqProofs := false }) only [FL.lift_a, FL.eC_a, FL.eV_a, FL.eN_a, FL.eP_p, FL.rd_d, FL.rd_i, FL.rd_p, FL.toSrc_a, FL.e1_a, FL.e2_a, FL.eCmp_a, FL.eBool_a, FL.eChain_a, FL.eChain_t, FL.pure_a, FL.eTruth_a, FL.bNot_a, FL.bAnd_a, FL.bOr_a, FL.bYes_a, FL.eIf_a, FL.vAnd_a, FL.vOr_a, FL.asBool_a, FL.eNil_a, FL.eCons_a, FL.eTup_a, FL.eLst_a, FL.eL_a, FL.eIx_a, FL.eSl_a, FL.pNo_a, FL.pSo_a, FL.asInt_a, FL.sNil_a, FL.sCons_a, FL.rdA_n, FL.rdA_c, FL.eCall1_a, FL.eCallL_a, FL.eIsi_a, FL.eM1_a, FL.sSeq_a, FL.sSeqL_a, FL.sIfL_a, FL.sNx_a, FL.sBk_a, FL.sCt_a, FL.sRet_a, FL.sRetN_a, FL.sDrop_a, FL.sIf_a, FL.aN_a, FL.aNil_a, FL.aCons_a, FL.aTup_a, FL.aPool_0, FL.aPool_1, FL.aPool_2, FL.sSet_a, FL.sSetO_a, FL.sAsg_a, FL.sApp_a, FL.sExt_a, FL.ePop_a, FL.sStore_a, FL.aSub_a, FL.ownAt_a, FL.putAt_a, FL.sPar_a, FL.mNil_a, FL.mV_a, FL.mO_a, FL.setAll_c, FL.setAll_n, FL.eDm_a, FL.eCall_a, FL.eCallP_a, FL.eCallO_a, FL.eCallOP_a, FL.arrB_a, FL.iEn_a, FL.turn_a, FL.fnB_a, FL.fnL_a, FL.rep_s, FL.rep_z, FL.few_z, FL.few_1, FL.few_2, FL.few_3, FL.gAdd_i, FL.gSub_i, FL.cLt_i, FL.cLe_i, FL.cGt_i, FL.cGe_i, FL.cEq_i, FL.cNe_i, FL.cEq_str, FL.cNe_str, FL.eqv_b, FL.cEq_b, FL.truth_b, FL.truth_i, FL.truth_l, FL.truth_t, FL.gLen_l, FL.gLen_t, FL.gInt_i, FL.gTup_l, FL.gTup_t, FL.items_l, FL.items_t, FL.cIs_b, FL.gIx_l0, FL.gIx_l1, FL.gIx_l2, FL.gIx_t0, FL.gIx_t1, FL.gIx_t2, FL.cLt_n, FL.cLt_ni, FL.cLt_in, FL.cLe_n, FL.cLe_ni, FL.cLe_in, FL.cGt_n, FL.cGt_ni, FL.cGe_n, FL.cGe_ni, FL.cEq_n, FL.cEq_ni, FL.cEq_in, FL.cNe_n, FL.cNe_ni, FL.gAdd_n, FL.gAdd_ni, FL.gAdd_in, FL.gSub_ni, FL.gSub_nn, FL.gSub_in, FL.gInt_n, FL.cEq_tN, FL.cNe_tN, FL.cEq_lN, FL.sh_nilL, FL.sh_nilT, FL.gLen_tN, FL.gLen_tT, FL.gIx_tN, FL.gIx_tT, FL.items_tN, FL.items_tT, FL.ty_i, FL.ty_n, FL.ty_tN, FL.ty_tT, FL.kit_ii, FL.kit_ib, FL.kit_tt, FL.kit_lt, FL.same_tN, FL.same_l, FL.arr_n, FL.arr_c, List.getElem?_cons_zero, List.getElem?_cons_succ, List.set_cons_zero, List.set_cons_succ, List.length_cons, List.length_nil, List.map_cons, List.map_nil, List.cons_append, List.nil_append, Bool.not_true, Bool.not_false, if_true, if_false, Bool.false_eq_true, FL.R.bind, eq_self, and_self, decide_true, decide_false, Option.bind_some, Option.map_some, List.length_map, FL.wipeE, FL.backE, g, gAbs_i, gPow_1018, g2]
  obtain ⟨ab, hab0, hab⟩ := hab
  refine ⟨[(st + own * 1013).fmod 2147483563, ab, 0], ⟨_, ab, 0, rfl, by rw [hm]; exact Int.emod_nonneg _ (by omega), by rw [hm]; exact Int.emod_lt_of_pos _ (by omega), hab0, by omega⟩, ?_⟩
  have key : ∀ (A E : B D) (L : B Fl), A ⟨[.v (scrD (ns.map PyData.int)), .v (nD i), .no, .no, .no], none⟩ = .ok (.int own) ⟨[.v (scrD (ns.map PyData.int)), .v (nD i), .no, .no, .no], none⟩ →
      L ⟨[.v (scrD (ns.map PyData.int)), .v (nD i), .v (.int own), .v (.int (2144653 + 5087 * i)), .no], none⟩ = .ok .nx ⟨[.v (scrD (ns.map PyData.int)), .v (nD i), .v (.int own), .v (.int st), c], none⟩ →
      E ⟨[.v (scrD (ns.map PyData.int)), .v (nD i), .v (.int own), .v (.int st), c], none⟩ = .ok (.int ab) ⟨[.v (scrD (ns.map PyData.int)), .v (nD i), .v (.int own), .v (.int st), c], none⟩ →
      fnL 2 5 (sSeqL (sPar [2, 3] (mV A (mV (e2 gAdd (eC (.int 2144653)) (e2 gMul (eC (.int 5087)) (eV 1))) (mNil)))) (sSeqL L (eLst (eCons (e2 gMod (eCall1 gInt (sCons (toSrc (e2 gAdd (eV 3) (e2 gMul (eV 2) (eC (.int 1013))))) (sNil))) (eC (.int 2147483563))) (eCons E (eCons (eC (.int 0)) (eNil))))))) [scrD (ns.map PyData.int), nD i] none = .ok [.int ((st + own * 1013).fmod 2147483563), .int ab, .int 0] none := by
    intro A E L hA hL hE
    simp (config := { implicitDefEqProofs := false }) only [FL.lift_a, FL.eC_a, FL.eV_a, FL.eN_a, FL.eP_p, FL.rd_d, FL.rd_i, FL.rd_p, FL.toSrc_a, FL.e1_a, FL.e2_a, FL.eCmp_a, FL.eBool_a, FL.eChain_a, FL.eChain_t, FL.pure_a, FL.eTruth_a, FL.bNot_a, FL.bAnd_a, FL.bOr_a, FL.bYes_a, FL.eIf_a, FL.vAnd_a, FL.vOr_a, FL.asBool_a, FL.eNil_a, FL.eCons_a, FL.eTup_a, FL.eLst_a, FL.eL_a, FL.eIx_a, FL.eSl_a, FL.pNo_a, FL.pSo_a, FL.asInt_a, FL.sNil_a, FL.sCons_a, FL.rdA_n, FL.rdA_c, FL.eCall1_a, FL.eCallL_a, FL.eIsi_a, FL.eM1_a, FL.sSeq_a, FL.sSeqL_a, FL.sIfL_a, FL.sNx_a, FL.sBk_a, FL.sCt_a, FL.sRet_a, FL.sRetN_a, FL.sDrop_a, FL.sIf_a, FL.aN_a, FL.aNil_a, FL.aCons_a, FL.aTup_a, FL.aPool_0, FL.aPool_1, FL.aPool_2, FL.sSet_a, FL.sSetO_a, FL.sAsg_a, FL.sApp_a, FL.sExt_a, FL.ePop_a, FL.sStore_a, FL.aSub_a, FL.ownAt_a, FL.putAt_a, FL.sPar_a, FL.mNil_a, FL.mV_a, FL.mO_a, FL.setAll_c, FL.setAll_n, FL.eDm_a, FL.eCall_a, FL.eCallP_a, FL.eCallO_a, FL.eCallOP_a, FL.arrB_a, FL.iEn_a, FL.turn_a, FL.fnB_a, FL.fnL_a, FL.rep_s, FL.rep_z, FL.few_z, FL.few_1, FL.few_2, FL.few_3, FL.gAdd_i, FL.gSub_i, FL.cLt_i, FL.cLe_i, FL.cGt_i, FL.cGe_i, FL.cEq_i, FL.cNe_i, FL.cEq_str, FL.cNe_str, FL.eqv_b, FL.cEq_b, FL.truth_b, FL.truth_i, FL.truth_l, FL.truth_t, FL.gLen_l, FL.gLen_t, FL.gInt_i, FL.gTup_l, FL.gTup_t, FL.items_l, FL.items_t, FL.cIs_b, FL.gIx_l0, FL.gIx_l1, FL.gIx_l2, FL.gIx_t0, FL.gIx_t1, FL.gIx_t2, FL.cLt_n, FL.cLt_ni, FL.cLt_in, FL.cLe_n, FL.cLe_ni, FL.cLe_in, FL.cGt_n, FL.cGt_ni, FL.cGe_n, FL.cGe_ni, FL.cEq_n, FL.cEq_ni, FL.cEq_in, FL.cNe_n, FL.cNe_ni, FL.gAdd_n, FL.gAdd_ni, FL.gAdd_in, FL.gSub_ni, FL.gSub_nn, FL.gSub_in, FL.gInt_n, FL.cEq_tN, FL.cNe_tN, FL.cEq_lN, FL.sh_nilL, FL.sh_nilT, FL.gLen_tN, FL.gLen_tT, FL.gIx_tN, FL.gIx_tT, FL.items_tN, FL.items_tT, FL.ty_i, FL.ty_n, FL.ty_tN, FL.ty_tT, FL.kit_ii, FL.kit_ib, FL.kit_tt, FL.kit_lt, FL.same_tN, FL.same_l, FL.arr_n, FL.arr_c, List.getElem?_cons_zero, List.getElem?_cons_succ, List.set_cons_zero, List.set_cons_succ, List.length_cons, List.length_nil, List.map_cons, List.map_nil, List.cons_append, List.nil_append, Bool.not_true, Bool.not_false, if_true, if_false, Bool.false_eq_true, FL.R.bind, eq_self, and_self, decide_true, decide_false, Option.bind_some, Option.map_some, List.length_map, FL.wipeE, FL.backE, hA, hg2, hL, hE, gMod_i hne, gMul_i hc3]
  exact key _ _ _ hown l1 hab
theorem callX_ok {F : Fn} {fl : B (List D)} {s : S} {env : List Sl} {ps q : List Int} {b : Bool} (h : fl s = .ok (ps.map PyData.int) ⟨env, none⟩) (hF : F [poolD] (some ps) = .ok (.bool b) (some q)) : eCallX F fl s = .ok (.bool b) ⟨env, none⟩ := by
  unfold eCallX
  rw [h]
  show callXk F (ps.map PyData.int) ⟨env, none⟩ = _
  unfold callXk
  simp only [intsD_map, hF]
theorem law_true : LawT 63 f_law := by
  intro ns hl
  have hr : ∃ k : Nat, k ≤ 3 ∧ eCall1 gMax2 (sCons (toSrc (eC (.int 2))) (sCons (toSrc (eCall1 gMin2 (sCons (toSrc (eCall1 gLen (sCons (eN 0) (sNil)))) (sCons (toSrc (eC (.int 3))) (sNil))))) (sNil))) ⟨[.v (scrD (ns.map PyData.int)), .no], none⟩ = .ok (.int (k : Nat)) ⟨[.v (scrD (ns.map PyData.int)), .no], none⟩ := by
    have e1 : ∀ a : Nat, gMin2 [nD a, .int 3] = some (.int (if (3 : Int) < a then 3 else a)) := fun a => rfl
    have e2 : ∀ b : Int, gMax2 [.int 2, .int b] = some (.int (if b > 2 then b else 2)) := fun b => rfl
    by_cases h : (3 : Int) < ns.length
    · refine ⟨3, by omega, ?_⟩
      simp (config := { implicitDefEqProofs := false }) only [FL.lift_a, FL.eC_a, FL.eV_a, FL.eN_a, FL.eP_p, FL.rd_d, FL.rd_i, FL.rd_p, FL.toSrc_a, FL.e1_a, FL.e2_a, FL.eCmp_a, FL.eBool_a, FL.eChain_a, FL.eChain_t, FL.pure_a, FL.eTruth_a, FL.bNot_a, FL.bAnd_a, FL.bOr_a, FL.bYes_a, FL.eIf_a, FL.vAnd_a, FL.vOr_a, FL.asBool_a, FL.eNil_a, FL.eCons_a, FL.eTup_a, FL.eLst_a, FL.eL_a, FL.eIx_a, FL.eSl_a, FL.pNo_a, FL.pSo_a, FL.asInt_a, FL.sNil_a, FL.sCons_a, FL.rdA_n, FL.rdA_c, FL.eCall1_a, FL.eCallL_a, FL.eIsi_a, FL.eM1_a, FL.sSeq_a, FL.sSeqL_a, FL.sIfL_a, FL.sNx_a, FL.sBk_a, FL.sCt_a, FL.sRet_a, FL.sRetN_a, FL.sDrop_a, FL.sIf_a, FL.aN_a, FL.aNil_a, FL.aCons_a, FL.aTup_a, FL.aPool_0, FL.aPool_1, FL.aPool_2, FL.sSet_a, FL.sSetO_a, FL.sAsg_a, FL.sApp_a, FL.sExt_a, FL.ePop_a, FL.sStore_a, FL.aSub_a, FL.ownAt_a, FL.putAt_a, FL.sPar_a, FL.mNil_a, FL.mV_a, FL.mO_a, FL.setAll_c, FL.setAll_n, FL.eDm_a, FL.eCall_a, FL.eCallP_a, FL.eCallO_a, FL.eCallOP_a, FL.arrB_a, FL.iEn_a, FL.turn_a, FL.fnB_a, FL.fnL_a, FL.rep_s, FL.rep_z, FL.few_z, FL.few_1, FL.few_2, FL.few_3, FL.gAdd_i, FL.gSub_i, FL.cLt_i, FL.cLe_i, FL.cGt_i, FL.cGe_i, FL.cEq_i, FL.cNe_i, FL.cEq_str, FL.cNe_str, FL.eqv_b, FL.cEq_b, FL.truth_b, FL.truth_i, FL.truth_l, FL.truth_t, FL.gLen_l, FL.gLen_t, FL.gInt_i, FL.gTup_l, FL.gTup_t, FL.items_l, FL.items_t, FL.cIs_b, FL.gIx_l0, FL.gIx_l1, FL.gIx_l2, FL.gIx_t0, FL.gIx_t1, FL.gIx_t2, FL.cLt_n, FL.cLt_ni, FL.cLt_in, FL.cLe_n, FL.cLe_ni, FL.cLe_in, FL.cGt_n, FL.cGt_ni, FL.cGe_n, FL.cGe_ni, FL.cEq_n, FL.cEq_ni, FL.cEq_in, FL.cNe_n, FL.cNe_ni, FL.gAdd_n, FL.gAdd_ni, FL.gAdd_in, FL.gSub_ni, FL.gSub_nn, FL.gSub_in, FL.gInt_n, FL.cEq_tN, FL.cNe_tN, FL.cEq_lN, FL.sh_nilL, FL.sh_nilT, FL.gLen_tN, FL.gLen_tT, FL.gIx_tN, FL.gIx_tT, FL.items_tN, FL.items_tT, FL.ty_i, FL.ty_n, FL.ty_tN, FL.ty_tT, FL.kit_ii, FL.kit_ib, FL.kit_tt, FL.kit_lt, FL.same_tN, FL.same_l, FL.arr_n, FL.arr_c, List.getElem?_cons_zero, List.getElem?_cons_succ, List.set_cons_zero, List.set_cons_succ, List.length_cons, List.length_nil, List.map_cons, List.map_nil, List.cons_append, List.nil_append, Bool.not_true, Bool.not_false, if_true, if_false, Bool.false_eq_true, FL.R.bind, eq_self, and_self, decide_true, decide_false, Option.bind_some, Option.map_some, List.length_map, FL.wipeE, FL.backE, gLen_s, e1, e2, h]
      rfl
    · by_cases h2 : (ns.length : Int) > 2
      · refine ⟨ns.length, by omega, ?_⟩
        simp (config := { implicitDefEqProofs := false }) only [FL.lift_a, FL.eC_a, FL.eV_a, FL.eN_a, FL.eP_p, FL.rd_d, FL.rd_i, FL.rd_p, FL.toSrc_a, FL.e1_a, FL.e2_a, FL.eCmp_a, FL.eBool_a, FL.eChain_a, FL.eChain_t, FL.pure_a, FL.eTruth_a, FL.bNot_a, FL.bAnd_a, FL.bOr_a, FL.bYes_a, FL.eIf_a, FL.vAnd_a, FL.vOr_a, FL.asBool_a, FL.eNil_a, FL.eCons_a, FL.eTup_a, FL.eLst_a, FL.eL_a, FL.eIx_a, FL.eSl_a, FL.pNo_a, FL.pSo_a, FL.asInt_a, FL.sNil_a, FL.sCons_a, FL.rdA_n, FL.rdA_c, FL.eCall1_a, FL.eCallL_a, FL.eIsi_a, FL.eM1_a, FL.sSeq_a, FL.sSeqL_a, FL.sIfL_a, FL.sNx_a, FL.sBk_a, FL.sCt_a, FL.sRet_a, FL.sRetN_a, FL.sDrop_a, FL.sIf_a, FL.aN_a, FL.aNil_a, FL.aCons_a, FL.aTup_a, FL.aPool_0, FL.aPool_1, FL.aPool_2, FL.sSet_a, FL.sSetO_a, FL.sAsg_a, FL.sApp_a, FL.sExt_a, FL.ePop_a, FL.sStore_a, FL.aSub_a, FL.ownAt_a, FL.putAt_a, FL.sPar_a, FL.mNil_a, FL.mV_a, FL.mO_a, FL.setAll_c, FL.setAll_n, FL.eDm_a, FL.eCall_a, FL.eCallP_a, FL.eCallO_a, FL.eCallOP_a, FL.arrB_a, FL.iEn_a, FL.turn_a, FL.fnB_a, FL.fnL_a, FL.rep_s, FL.rep_z, FL.few_z, FL.few_1, FL.few_2, FL.few_3, FL.gAdd_i, FL.gSub_i, FL.cLt_i, FL.cLe_i, FL.cGt_i, FL.cGe_i, FL.cEq_i, FL.cNe_i, FL.cEq_str, FL.cNe_str, FL.eqv_b, FL.cEq_b, FL.truth_b, FL.truth_i, FL.truth_l, FL.truth_t, FL.gLen_l, FL.gLen_t, FL.gInt_i, FL.gTup_l, FL.gTup_t, FL.items_l, FL.items_t, FL.cIs_b, FL.gIx_l0, FL.gIx_l1, FL.gIx_l2, FL.gIx_t0, FL.gIx_t1, FL.gIx_t2, FL.cLt_n, FL.cLt_ni, FL.cLt_in, FL.cLe_n, FL.cLe_ni, FL.cLe_in, FL.cGt_n, FL.cGt_ni, FL.cGe_n, FL.cGe_ni, FL.cEq_n, FL.cEq_ni, FL.cEq_in, FL.cNe_n, FL.cNe_ni, FL.gAdd_n, FL.gAdd_ni, FL.gAdd_in, FL.gSub_ni, FL.gSub_nn, FL.gSub_in, FL.gInt_n, FL.cEq_tN, FL.cNe_tN, FL.cEq_lN, FL.sh_nilL, FL.sh_nilT, FL.gLen_tN, FL.gLen_tT, FL.gIx_tN, FL.gIx_tT, FL.items_tN, FL.items_tT, FL.ty_i, FL.ty_n, FL.ty_tN, FL.ty_tT, FL.kit_ii, FL.kit_ib, FL.kit_tt, FL.kit_lt, FL.same_tN, FL.same_l, FL.arr_n, FL.arr_c, List.getElem?_cons_zero, List.getElem?_cons_succ, List.set_cons_zero, List.set_cons_succ, List.length_cons, List.length_nil, List.map_cons, List.map_nil, List.cons_append, List.nil_append, Bool.not_true, Bool.not_false, if_true, if_false, Bool.false_eq_true, FL.R.bind, eq_self, and_self, decide_true, decide_false, Option.bind_some, Option.map_some, List.length_map, FL.wipeE, FL.backE, gLen_s, e1, e2, h, h2]
      · refine ⟨2, by omega, ?_⟩
        simp (config := { implicitDefEqProofs := false }) only [FL.lift_a, FL.eC_a, FL.eV_a, FL.eN_a, FL.eP_p, FL.rd_d, FL.rd_i, FL.rd_p, FL.toSrc_a, FL.e1_a, FL.e2_a, FL.eCmp_a, FL.eBool_a, FL.eChain_a, FL.eChain_t, FL.pure_a, FL.eTruth_a, FL.bNot_a, FL.bAnd_a, FL.bOr_a, FL.bYes_a, FL.eIf_a, FL.vAnd_a, FL.vOr_a, FL.asBool_a, FL.eNil_a, FL.eCons_a, FL.eTup_a, FL.eLst_a, FL.eL_a, FL.eIx_a, FL.eSl_a, FL.pNo_a, FL.pSo_a, FL.asInt_a, FL.sNil_a, FL.sCons_a, FL.rdA_n, FL.rdA_c, FL.eCall1_a, FL.eCallL_a, FL.eIsi_a, FL.eM1_a, FL.sSeq_a, FL.sSeqL_a, FL.sIfL_a, FL.sNx_a, FL.sBk_a, FL.sCt_a, FL.sRet_a, FL.sRetN_a, FL.sDrop_a, FL.sIf_a, FL.aN_a, FL.aNil_a, FL.aCons_a, FL.aTup_a, FL.aPool_0, FL.aPool_1, FL.aPool_2, FL.sSet_a, FL.sSetO_a, FL.sAsg_a, FL.sApp_a, FL.sExt_a, FL.ePop_a, FL.sStore_a, FL.aSub_a, FL.ownAt_a, FL.putAt_a, FL.sPar_a, FL.mNil_a, FL.mV_a, FL.mO_a, FL.setAll_c, FL.setAll_n, FL.eDm_a, FL.eCall_a, FL.eCallP_a, FL.eCallO_a, FL.eCallOP_a, FL.arrB_a, FL.iEn_a, FL.turn_a, FL.fnB_a, FL.fnL_a, FL.rep_s, FL.rep_z, FL.few_z, FL.few_1, FL.few_2, FL.few_3, FL.gAdd_i, FL.gSub_i, FL.cLt_i, FL.cLe_i, FL.cGt_i, FL.cGe_i, FL.cEq_i, FL.cNe_i, FL.cEq_str, FL.cNe_str, FL.eqv_b, FL.cEq_b, FL.truth_b, FL.truth_i, FL.truth_l, FL.truth_t, FL.gLen_l, FL.gLen_t, FL.gInt_i, FL.gTup_l, FL.gTup_t, FL.items_l, FL.items_t, FL.cIs_b, FL.gIx_l0, FL.gIx_l1, FL.gIx_l2, FL.gIx_t0, FL.gIx_t1, FL.gIx_t2, FL.cLt_n, FL.cLt_ni, FL.cLt_in, FL.cLe_n, FL.cLe_ni, FL.cLe_in, FL.cGt_n, FL.cGt_ni, FL.cGe_n, FL.cGe_ni, FL.cEq_n, FL.cEq_ni, FL.cEq_in, FL.cNe_n, FL.cNe_ni, FL.gAdd_n, FL.gAdd_ni, FL.gAdd_in, FL.gSub_ni, FL.gSub_nn, FL.gSub_in, FL.gInt_n, FL.cEq_tN, FL.cNe_tN, FL.cEq_lN, FL.sh_nilL, FL.sh_nilT, FL.gLen_tN, FL.gLen_tT, FL.gIx_tN, FL.gIx_tT, FL.items_tN, FL.items_tT, FL.ty_i, FL.ty_n, FL.ty_tN, FL.ty_tT, FL.kit_ii, FL.kit_ib, FL.kit_tt, FL.kit_lt, FL.same_tN, FL.same_l, FL.arr_n, FL.arr_c, List.getElem?_cons_zero, List.getElem?_cons_succ, List.set_cons_zero, List.set_cons_succ, List.length_cons, List.length_nil, List.map_cons, List.map_nil, List.cons_append, List.nil_append, Bool.not_true, Bool.not_false, if_true, if_false, Bool.false_eq_true, FL.R.bind, eq_self, and_self, decide_true, decide_false, Option.bind_some, Option.map_some, List.length_map, FL.wipeE, FL.backE, gLen_s, e1, e2, h, h2]
        rfl
  obtain ⟨k, hk, hr⟩ := hr
  have hfi : iR1 (eCall1 gMax2 (sCons (toSrc (eC (.int 2))) (sCons (toSrc (eCall1 gMin2 (sCons (toSrc (eCall1 gLen (sCons (eN 0) (sNil)))) (sCons (toSrc (eC (.int 3))) (sNil))))) (sNil)))) ⟨[.v (scrD (ns.map PyData.int)), .no], none⟩ = .ok ((List.range k).map nD) ⟨[.v (scrD (ns.map PyData.int)), .no], none⟩ := iR1_n hr (by omega)
  obtain ⟨s', l1, l2⟩ := sFor_inv (a := aN 1) (g := sIf (bNot (eTruth (toSrc (eCallX f__law_right (eCallO f__law_pool (eCons (eV 0) (eCons (eV 1) (eNil)))))))) (sRet (eC (.bool false))) (sNx)) (fun _ st => ∃ c, st = ⟨[.v (scrD (ns.map PyData.int)), c], none⟩) hfi ⟨_, rfl⟩ (fun j d st hd hj => by
    obtain ⟨c, rfl⟩ := hj
    obtain ⟨hjk, rfl⟩ := get_nD hd
    have hjk' : j < k := by simpa using hjk
    have e0 : (List.range k)[j] = j := List.getElem_range _
    rw [e0]
    obtain ⟨ps, hps, hpool⟩ := pool_ok hl (i := j) (by omega)
    obtain ⟨q', hright⟩ := right_ok hps
    refine ⟨⟨[.v (scrD (ns.map PyData.int)), .v (nD j)], none⟩, ⟨[.v (scrD (ns.map PyData.int)), .v (nD j)], none⟩, rfl, .inl ?_, _, rfl⟩
    have hx : eCallX f__law_right (eCallO f__law_pool (eCons (eV 0) (eCons (eV 1) (eNil)))) ⟨[.v (scrD (ns.map PyData.int)), .v (nD j)], none⟩ = .ok (.bool true) ⟨[.v (scrD (ns.map PyData.int)), .v (nD j)], none⟩ := by
      refine callX_ok (ps := ps) ?_ hright
      have key : ∀ F : FnL, F [scrD (ns.map PyData.int), nD j] none = .ok (ps.map PyData.int) none → eCallO F (eCons (eV 0) (eCons (eV 1) (eNil))) ⟨[.v (scrD (ns.map PyData.int)), .v (nD j)], none⟩ = .ok (ps.map PyData.int) ⟨[.v (scrD (ns.map PyData.int)), .v (nD j)], none⟩ := by
        intro F hF
        simp (config := { implicitDefEqProofs := false }) only [FL.lift_a, FL.eC_a, FL.eV_a, FL.eN_a, FL.eP_p, FL.rd_d, FL.rd_i, FL.rd_p, FL.toSrc_a, FL.e1_a, FL.e2_a, FL.eCmp_a, FL.eBool_a, FL.eChain_a, FL.eChain_t, FL.pure_a, FL.eTruth_a, FL.bNot_a, FL.bAnd_a, FL.bOr_a, FL.bYes_a, FL.eIf_a, FL.vAnd_a, FL.vOr_a, FL.asBool_a, FL.eNil_a, FL.eCons_a, FL.eTup_a, FL.eLst_a, FL.eL_a, FL.eIx_a, FL.eSl_a, FL.pNo_a, FL.pSo_a, FL.asInt_a, FL.sNil_a, FL.sCons_a, FL.rdA_n, FL.rdA_c, FL.eCall1_a, FL.eCallL_a, FL.eIsi_a, FL.eM1_a, FL.sSeq_a, FL.sSeqL_a, FL.sIfL_a, FL.sNx_a, FL.sBk_a, FL.sCt_a, FL.sRet_a, FL.sRetN_a, FL.sDrop_a, FL.sIf_a, FL.aN_a, FL.aNil_a, FL.aCons_a, FL.aTup_a, FL.aPool_0, FL.aPool_1, FL.aPool_2, FL.sSet_a, FL.sSetO_a, FL.sAsg_a, FL.sApp_a, FL.sExt_a, FL.ePop_a, FL.sStore_a, FL.aSub_a, FL.ownAt_a, FL.putAt_a, FL.sPar_a, FL.mNil_a, FL.mV_a, FL.mO_a, FL.setAll_c, FL.setAll_n, FL.eDm_a, FL.eCall_a, FL.eCallP_a, FL.eCallO_a, FL.eCallOP_a, FL.arrB_a, FL.iEn_a, FL.turn_a, FL.fnB_a, FL.fnL_a, FL.rep_s, FL.rep_z, FL.few_z, FL.few_1, FL.few_2, FL.few_3, FL.gAdd_i, FL.gSub_i, FL.cLt_i, FL.cLe_i, FL.cGt_i, FL.cGe_i, FL.cEq_i, FL.cNe_i, FL.cEq_str, FL.cNe_str, FL.eqv_b, FL.cEq_b, FL.truth_b, FL.truth_i, FL.truth_l, FL.truth_t, FL.gLen_l, FL.gLen_t, FL.gInt_i, FL.gTup_l, FL.gTup_t, FL.items_l, FL.items_t, FL.cIs_b, FL.gIx_l0, FL.gIx_l1, FL.gIx_l2, FL.gIx_t0, FL.gIx_t1, FL.gIx_t2, FL.cLt_n, FL.cLt_ni, FL.cLt_in, FL.cLe_n, FL.cLe_ni, FL.cLe_in, FL.cGt_n, FL.cGt_ni, FL.cGe_n, FL.cGe_ni, FL.cEq_n, FL.cEq_ni, FL.cEq_in, FL.cNe_n, FL.cNe_ni, FL.gAdd_n, FL.gAdd_ni, FL.gAdd_in, FL.gSub_ni, FL.gSub_nn, FL.gSub_in, FL.gInt_n, FL.cEq_tN, FL.cNe_tN, FL.cEq_lN, FL.sh_nilL, FL.sh_nilT, FL.gLen_tN, FL.gLen_tT, FL.gIx_tN, FL.gIx_tT, FL.items_tN, FL.items_tT, FL.ty_i, FL.ty_n, FL.ty_tN, FL.ty_tT, FL.kit_ii, FL.kit_ib, FL.kit_tt, FL.kit_lt, FL.same_tN, FL.same_l, FL.arr_n, FL.arr_c, List.getElem?_cons_zero, List.getElem?_cons_succ, List.set_cons_zero, List.set_cons_succ, List.length_cons, List.length_nil, List.map_cons, List.map_nil, List.cons_append, List.nil_append, Bool.not_true, Bool.not_false, if_true, if_false, Bool.false_eq_true, FL.R.bind, eq_self, and_self, decide_true, decide_false, Option.bind_some, Option.map_some, List.length_map, FL.wipeE, FL.backE, hF]
      exact key _ hpool
    have key : ∀ A : B D, A ⟨[.v (scrD (ns.map PyData.int)), .v (nD j)], none⟩ = .ok (.bool true) ⟨[.v (scrD (ns.map PyData.int)), .v (nD j)], none⟩ → sIf (bNot (eTruth (toSrc A))) (sRet (eC (.bool false))) (sNx) ⟨[.v (scrD (ns.map PyData.int)), .v (nD j)], none⟩ = .ok .nx ⟨[.v (scrD (ns.map PyData.int)), .v (nD j)], none⟩ := by
      intro A hA
      simp (config := { implicitDefEqProofs := false }) only [FL.lift_a, FL.eC_a, FL.eV_a, FL.eN_a, FL.eP_p, FL.rd_d, FL.rd_i, FL.rd_p, FL.toSrc_a, FL.e1_a, FL.e2_a, FL.eCmp_a, FL.eBool_a, FL.eChain_a, FL.eChain_t, FL.pure_a, FL.eTruth_a, FL.bNot_a, FL.bAnd_a, FL.bOr_a, FL.bYes_a, FL.eIf_a, FL.vAnd_a, FL.vOr_a, FL.asBool_a, FL.eNil_a, FL.eCons_a, FL.eTup_a, FL.eLst_a, FL.eL_a, FL.eIx_a, FL.eSl_a, FL.pNo_a, FL.pSo_a, FL.asInt_a, FL.sNil_a, FL.sCons_a, FL.rdA_n, FL.rdA_c, FL.eCall1_a, FL.eCallL_a, FL.eIsi_a, FL.eM1_a, FL.sSeq_a, FL.sSeqL_a, FL.sIfL_a, FL.sNx_a, FL.sBk_a, FL.sCt_a, FL.sRet_a, FL.sRetN_a, FL.sDrop_a, FL.sIf_a, FL.aN_a, FL.aNil_a, FL.aCons_a, FL.aTup_a, FL.aPool_0, FL.aPool_1, FL.aPool_2, FL.sSet_a, FL.sSetO_a, FL.sAsg_a, FL.sApp_a, FL.sExt_a, FL.ePop_a, FL.sStore_a, FL.aSub_a, FL.ownAt_a, FL.putAt_a, FL.sPar_a, FL.mNil_a, FL.mV_a, FL.mO_a, FL.setAll_c, FL.setAll_n, FL.eDm_a, FL.eCall_a, FL.eCallP_a, FL.eCallO_a, FL.eCallOP_a, FL.arrB_a, FL.iEn_a, FL.turn_a, FL.fnB_a, FL.fnL_a, FL.rep_s, FL.rep_z, FL.few_z, FL.few_1, FL.few_2, FL.few_3, FL.gAdd_i, FL.gSub_i, FL.cLt_i, FL.cLe_i, FL.cGt_i, FL.cGe_i, FL.cEq_i, FL.cNe_i, FL.cEq_str, FL.cNe_str, FL.eqv_b, FL.cEq_b, FL.truth_b, FL.truth_i, FL.truth_l, FL.truth_t, FL.gLen_l, FL.gLen_t, FL.gInt_i, FL.gTup_l, FL.gTup_t, FL.items_l, FL.items_t, FL.cIs_b, FL.gIx_l0, FL.gIx_l1, FL.gIx_l2, FL.gIx_t0, FL.gIx_t1, FL.gIx_t2, FL.cLt_n, FL.cLt_ni, FL.cLt_in, FL.cLe_n, FL.cLe_ni, FL.cLe_in, FL.cGt_n, FL.cGt_ni, FL.cGe_n, FL.cGe_ni, FL.cEq_n, FL.cEq_ni, FL.cEq_in, FL.cNe_n, FL.cNe_ni, FL.gAdd_n, FL.gAdd_ni, FL.gAdd_in, FL.gSub_ni, FL.gSub_nn, FL.gSub_in, FL.gInt_n, FL.cEq_tN, FL.cNe_tN, FL.cEq_lN, FL.sh_nilL, FL.sh_nilT, FL.gLen_tN, FL.gLen_tT, FL.gIx_tN, FL.gIx_tT, FL.items_tN, FL.items_tT, FL.ty_i, FL.ty_n, FL.ty_tN, FL.ty_tT, FL.kit_ii, FL.kit_ib, FL.kit_tt, FL.kit_lt, FL.same_tN, FL.same_l, FL.arr_n, FL.arr_c, List.getElem?_cons_zero, List.getElem?_cons_succ, List.set_cons_zero, List.set_cons_succ, List.length_cons, List.length_nil, List.map_cons, List.map_nil, List.cons_append, List.nil_append, Bool.not_true, Bool.not_false, if_true, if_false, Bool.false_eq_true, FL.R.bind, eq_self, and_self, decide_true, decide_false, Option.bind_some, Option.map_some, List.length_map, FL.wipeE, FL.backE, hA]
    exact key _ hx)
  obtain ⟨c, rfl⟩ := l2
  have key : ∀ L : B Fl, L ⟨[.v (scrD (ns.map PyData.int)), .no], none⟩ = .ok .nx ⟨[.v (scrD (ns.map PyData.int)), c], none⟩ → fnB 1 2 (sSeq L (sRet (eC (.bool true)))) [scrD (ns.map PyData.int)] none = .ok (.bool true) none := by
    intro L hL
    simp (config := { implicitDefEqProofs := false }) only [FL.lift_a, FL.eC_a, FL.eV_a, FL.eN_a, FL.eP_p, FL.rd_d, FL.rd_i, FL.rd_p, FL.toSrc_a, FL.e1_a, FL.e2_a, FL.eCmp_a, FL.eBool_a, FL.eChain_a, FL.eChain_t, FL.pure_a, FL.eTruth_a, FL.bNot_a, FL.bAnd_a, FL.bOr_a, FL.bYes_a, FL.eIf_a, FL.vAnd_a, FL.vOr_a, FL.asBool_a, FL.eNil_a, FL.eCons_a, FL.eTup_a, FL.eLst_a, FL.eL_a, FL.eIx_a, FL.eSl_a, FL.pNo_a, FL.pSo_a, FL.asInt_a, FL.sNil_a, FL.sCons_a, FL.rdA_n, FL.rdA_c, FL.eCall1_a, FL.eCallL_a, FL.eIsi_a, FL.eM1_a, FL.sSeq_a, FL.sSeqL_a, FL.sIfL_a, FL.sNx_a, FL.sBk_a, FL.sCt_a, FL.sRet_a, FL.sRetN_a, FL.sDrop_a, FL.sIf_a, FL.aN_a, FL.aNil_a, FL.aCons_a, FL.aTup_a, FL.aPool_0, FL.aPool_1, FL.aPool_2, FL.sSet_a, FL.sSetO_a, FL.sAsg_a, FL.sApp_a, FL.sExt_a, FL.ePop_a, FL.sStore_a, FL.aSub_a, FL.ownAt_a, FL.putAt_a, FL.sPar_a, FL.mNil_a, FL.mV_a, FL.mO_a, FL.setAll_c, FL.setAll_n, FL.eDm_a, FL.eCall_a, FL.eCallP_a, FL.eCallO_a, FL.eCallOP_a, FL.arrB_a, FL.iEn_a, FL.turn_a, FL.fnB_a, FL.fnL_a, FL.rep_s, FL.rep_z, FL.few_z, FL.few_1, FL.few_2, FL.few_3, FL.gAdd_i, FL.gSub_i, FL.cLt_i, FL.cLe_i, FL.cGt_i, FL.cGe_i, FL.cEq_i, FL.cNe_i, FL.cEq_str, FL.cNe_str, FL.eqv_b, FL.cEq_b, FL.truth_b, FL.truth_i, FL.truth_l, FL.truth_t, FL.gLen_l, FL.gLen_t, FL.gInt_i, FL.gTup_l, FL.gTup_t, FL.items_l, FL.items_t, FL.cIs_b, FL.gIx_l0, FL.gIx_l1, FL.gIx_l2, FL.gIx_t0, FL.gIx_t1, FL.gIx_t2, FL.cLt_n, FL.cLt_ni, FL.cLt_in, FL.cLe_n, FL.cLe_ni, FL.cLe_in, FL.cGt_n, FL.cGt_ni, FL.cGe_n, FL.cGe_ni, FL.cEq_n, FL.cEq_ni, FL.cEq_in, FL.cNe_n, FL.cNe_ni, FL.gAdd_n, FL.gAdd_ni, FL.gAdd_in, FL.gSub_ni, FL.gSub_nn, FL.gSub_in, FL.gInt_n, FL.cEq_tN, FL.cNe_tN, FL.cEq_lN, FL.sh_nilL, FL.sh_nilT, FL.gLen_tN, FL.gLen_tT, FL.gIx_tN, FL.gIx_tT, FL.items_tN, FL.items_tT, FL.ty_i, FL.ty_n, FL.ty_tN, FL.ty_tT, FL.kit_ii, FL.kit_ib, FL.kit_tt, FL.kit_lt, FL.same_tN, FL.same_l, FL.arr_n, FL.arr_c, List.getElem?_cons_zero, List.getElem?_cons_succ, List.set_cons_zero, List.set_cons_succ, List.length_cons, List.length_nil, List.map_cons, List.map_nil, List.cons_append, List.nil_append, Bool.not_true, Bool.not_false, if_true, if_false, Bool.false_eq_true, FL.R.bind, eq_self, and_self, decide_true, decide_false, Option.bind_some, Option.map_some, List.length_map, FL.wipeE, FL.backE, hL]
  exact key _ l1
end M
open PySem PySem.W PyProof.Rows
set_option maxHeartbeats 0 in
theorem PySem.Challenge.cw_wishpairs_k03_whole_books_of_anything_holds : PySem.Challenge.rw_wishpairs_k03_whole_books_of_anything.Holds := by
  w_on; o_law; k_head; (case hw => w_witness2)
  k_fill
  refine FL.walk_g (l := PySem.Challenge.rw_wishpairs_k03_whole_books_of_anything) (n := 63) (k := 15) (x := "script") (sp := fun w mg => FL.spF _ mg M.f_law) rfl (by decide) rfl ⟨⟨rfl, by decide, by decide⟩, rfl⟩ (fun w h Y => PySem.W.kIn_of Y) ?F (fun _ _ H a ns hl _ hS => FL.law_sp M.law_true hl hS)
  case F =>
    intro w mg fa h KX G hmg
    refine' M.all_mk KX G hmg ?a0 ?l0 ?c0 ?k0 ?a1 ?l1 ?c1 ?k1 ?a2 ?l2 ?c2 ?k2 ?a3 ?l3 ?c3 ?k3 ?a4 ?l4 ?c4 ?k4 ?a5 ?l5 ?c5 ?k5 ?a6 ?l6 ?c6 ?k6 ?a7 ?l7 ?c7 ?k7 ?a8 ?l8 ?c8 ?k8 ?a9 ?l9 ?c9 ?k9 ?a10 ?l10 ?c10 ?k10 ?a11 ?l11 ?c11 ?k11 ?a12 ?l12 ?c12 ?k12 ?a13 ?l13 ?c13 ?k13 ?a14 ?l14 ?c14 ?k14 ?a15 ?l15 ?c15 ?k15 ?a16 ?l16 ?c16 ?k16 ?a17 ?l17 ?c17 ?k17 ?a18 ?l18 ?c18 ?k18 ?a19 ?l19 ?c19 ?k19 ?a20 ?l20 ?c20 ?k20 ?a21 ?l21 ?c21 ?k21 ?z_isinstance ?z_tuple ?z_len ?z_range ?z_bool ?z_int ?z_str ?z_divmod ?z_list ?z_max ?z_min ?z_all ?z_enumerate ?z_any ?z_set ?z_abs ?i_MOST_PERSONS
    (case a0 => k_is); (case l0 => k_is); (case c0 => k_is); (case k0 => k_is); (case a1 => k_is); (case l1 => k_is); (case c1 => k_is); (case k1 => k_is); (case a2 => k_is); (case l2 => k_is); (case c2 => k_is); (case k2 => k_is); (case a3 => k_is); (case l3 => k_is); (case c3 => k_is); (case k3 => k_is); (case a4 => k_is); (case l4 => k_is); (case c4 => k_is); (case k4 => k_is); (case a5 => k_is); (case l5 => k_is); (case c5 => k_is); (case k5 => k_is); (case a6 => k_is); (case l6 => k_is); (case c6 => k_is); (case k6 => k_is); (case a7 => k_is); (case l7 => k_is); (case c7 => k_is); (case k7 => k_is); (case a8 => k_is); (case l8 => k_is); (case c8 => k_is); (case k8 => k_is); (case a9 => k_is); (case l9 => k_is); (case c9 => k_is); (case k9 => k_is); (case a10 => k_is); (case l10 => k_is); (case c10 => k_is); (case k10 => k_is); (case a11 => k_is); (case l11 => k_is); (case c11 => k_is); (case k11 => k_is); (case a12 => k_is); (case l12 => k_is); (case c12 => k_is); (case k12 => k_is); (case a13 => k_is); (case l13 => k_is); (case c13 => k_is); (case k13 => k_is); (case a14 => k_is); (case l14 => k_is); (case c14 => k_is); (case k14 => k_is); (case a15 => k_is); (case l15 => k_is); (case c15 => k_is); (case k15 => k_is); (case a16 => k_is); (case l16 => k_is); (case c16 => k_is); (case k16 => k_is); (case a17 => k_is); (case l17 => k_is); (case c17 => k_is); (case k17 => k_is); (case a18 => k_is); (case l18 => k_is); (case c18 => k_is); (case k18 => k_is); (case a19 => k_is); (case l19 => k_is); (case c19 => k_is); (case k19 => k_is); (case a20 => k_is); (case l20 => k_is); (case c20 => k_is); (case k20 => k_is); (case a21 => k_is); (case l21 => k_is); (case c21 => k_is); (case k21 => k_is); (case z_isinstance => k_is); (case z_tuple => k_is); (case z_len => k_is); (case z_range => k_is); (case z_bool => k_is); (case z_int => k_is); (case z_str => k_is); (case z_divmod => k_is); (case z_list => k_is); (case z_max => k_is); (case z_min => k_is); (case z_all => k_is); (case z_enumerate => k_is); (case z_any => k_is); (case z_set => k_is); (case z_abs => k_is); (case i_MOST_PERSONS => k_is)
