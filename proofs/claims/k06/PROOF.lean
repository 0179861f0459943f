import PyProof.Rows.All
import Wide.All
import OpenK.AllK
import Wide.FinOn
import HandS.ForMost
import HandS.ForExc
import HandS.Deep
import HandS.Conv
import HandS.IsInst
import HandS.DictComp
import KE.SortData
import KE.KDictKeyed
import KE.KDictWalk
import HandS.TupAny
import HandS.TupLe
import HandS.DictTup
import HandS.Flow
import KE.KDictSum
import KE.KDictCopyH
import HandS.TupLen
import HandS.CallSlots
import HandS.Comp
import HandS.Zip
import HandS.Iter
import PyProof.FString5
import HandS.HeadHook1
import HandS.Defaults
import HandS.ExcOwn
import HandS.ExcInit
import HandS.Replace
import HandS.Text
import HandS.ExcIs
import HandS.ExcField
import HandS.Dict
import HandS.Head0
import HandS.Head1
import HandS.Head2
import HandS.HeadEnd
import HandS.HeadHook2
import HandS.TryMany
import HandS.Style
import KE.DataCmp
import KE.DataMinMax
import PySem.Challenge.RW_tornsheets_k06_kinds_of_pieces
set_option Elab.async false
set_option linter.all false
set_option maxRecDepth 100000
set_option maxHeartbeats 0
/-! T0: data, registers, their relation to the tracked heap, meanings of expressions -/
namespace TS
open PySem PySem.Spec PyProof.Rows L2

abbrev D := PyData
abbrev Frg := PySem.W.Frag
abbrev NK := NestedKey

/-- what a register holds: shared data, or a list or dict of its own -/
inductive RV where
  | val (d : D)
  | ownL (ds : List D)
  | ownD (kvs : List (D × D))
structure Exc where
  cls : String
  fld : Option (Str × D)
abbrev Regs := List (Option RV)
def RV.dat : RV → D
  | .val d => d
  | .ownL ds => .list ds
  | .ownD kvs => .dict kvs

mutual
/-- a datum as a dict's key -/
def nkey : D → Option NK
  | .none => some .none
  | .bool b => some (.num (if b = true then 1 else 0))
  | .int i => some (.num i)
  | .str x => some (.text x)
  | .tuple xs => (nkeys xs).map .tup
  | .list _ => none
  | .dict _ => none
def nkeys : List D → Option (List NK)
  | [] => some []
  | x :: xs => match nkey x, nkeys xs with
    | some k, some ks => some (k :: ks)
    | _, _ => none
end
mutual
/-- no list, no dict within -/
def imm : D → Bool
  | .none => true
  | .bool _ => true
  | .int _ => true
  | .str _ => true
  | .tuple xs => immA xs
  | .list _ => false
  | .dict _ => false
def immA : List D → Bool
  | [] => true
  | x :: xs => imm x && immA xs
end

/-- a dict whose keys are tuples, as a tracked object -/
def dicO (w : World) (a : Addr) (es : List (NK × Addr × V)) (ep : Nat) : HO := .ext fun h =>
  (a == sysModules) = false ∧ es.length ≤ sizeLine ∧ (es.map (·.1)).Nodup ∧
  ∃ o des vs, h.get? a = some o ∧ o.ExactDict ∧ o.data = .dict des ep ∧ Vals (es.map (·.2.2)) vs ∧
    des.toList = List.zipWith (fun (e : NK × Addr × V) u => (⟨e.1.hash w, .ref e.2.1, u⟩ : DictEntry)) es vs

/-- a list that may be read: one that never changes again, a locked one, one of the written part -/
def LsOk (K : Frg) (H : Hp) (F : Addr → Prop) (a : Addr) (xs : List V) : Prop :=
  (H a = some (.lst xs) ∧ F a) ∨ (∃ o, H a = some (.frz o (.lst xs))) ∨
    ∃ (o : Obj) (its : Array Value) (n : Nat), K.lookup a = some o ∧ o.cls = .type "list" ∧ o.dict = none ∧ o.data = .seq its n ∧ its.size ≤ sizeLine ∧ Vals xs its.toList
theorem LsOk.sq {K : Frg} {H : Hp} {F : Addr → Prop} {a : Addr} {xs : List V} (h : LsOk K H F a xs) : SqL K H a xs := by
  rcases h with h | h | h
  · exact .inl (.inl h.1)
  · exact .inl (.inr h)
  · exact .inr h

mutual
/-- the value v is the datum d; its lists and dicts stand at addresses of F -/
inductive Rp (w : World) (K : Frg) (H : Hp) (F : Addr → Prop) : V → D → Prop
  | non : Rp w K H F .non .none
  | bl (b : Bool) : Rp w K H F (.bl b) (.bool b)
  | int (i : Int) : Rp w K H F (.int i) (.int i)
  | str (x : Str) : Rp w K H F (.str x) (.str x)
  | lst {a : Addr} {xs : List V} {ds : List D} : LsOk K H F a xs → RpA w K H F xs ds → Rp w K H F (.ref a) (.list ds)
  | tup {a : Addr} {xs : List V} {ds : List D} : SqT K H a xs → RpA w K H F xs ds → Rp w K H F (.ref a) (.tuple ds)
  | dic {a : Addr} {es : List (NK × Addr × V)} {ep : Nat} {kvs : List (D × D)} : H a = some (dicO w a es ep) → F a → RpK w K H F es kvs → Rp w K H F (.ref a) (.dict kvs)
inductive RpA (w : World) (K : Frg) (H : Hp) (F : Addr → Prop) : List V → List D → Prop
  | nil : RpA w K H F [] []
  | cons {v : V} {vs : List V} {d : D} {ds : List D} : Rp w K H F v d → RpA w K H F vs ds → RpA w K H F (v :: vs) (d :: ds)
inductive RpK (w : World) (K : Frg) (H : Hp) (F : Addr → Prop) : List (NK × Addr × V) → List (D × D) → Prop
  | nil : RpK w K H F [] []
  | cons {nk : NK} {b : Addr} {v : V} {es : List (NK × Addr × V)} {dk dv : D} {kvs : List (D × D)} : nkey dk = some nk → nk.depth ≤ 8 → imm dk = true → Rp w K H F (.ref b) dk → Rp w K H F v dv → RpK w K H F es kvs → RpK w K H F ((nk, b, v) :: es) ((dk, dv) :: kvs)
end

section
variable {w : World} {K : Frg} {H H' : Hp} {F F' : Addr → Prop}
theorem SqT.mono {a : Addr} {xs : List V} (k : ∀ a xs, H a = some (.tup xs) → H' a = some (.tup xs)) (kf : ∀ a o u, H a = some (.frz o u) → H' a = some (.frz o u)) (h : SqT K H a xs) : SqT K H' a xs := by
  rcases h with (h | ⟨o, h⟩) | h
  · exact .inl (.inl (k _ _ h))
  · exact .inl (.inr ⟨o, kf _ _ _ h⟩)
  · exact .inr h
/-- what keeps the data: tuples, locked things, the objects at F -/
structure Keep (F : Addr → Prop) (H H' : Hp) : Prop where
  tup : ∀ a xs, H a = some (.tup xs) → H' a = some (.tup xs)
  frz : ∀ a o u, H a = some (.frz o u) → H' a = some (.frz o u)
  own : ∀ a o, F a → H a = some o → H' a = some o
theorem LsOk.mono {a : Addr} {xs : List V} (k : Keep F H H') (f : ∀ a, F a → F' a) (h : LsOk K H F a xs) : LsOk K H' F' a xs := by
  rcases h with h | ⟨o, h⟩ | h
  · exact .inl ⟨k.own _ _ h.2 h.1, f _ h.2⟩
  · exact .inr (.inl ⟨o, k.frz _ _ _ h⟩)
  · exact .inr (.inr h)
mutual
theorem Rp.mono (k : Keep F H H') (f : ∀ a, F a → F' a) : ∀ (d : D) (v : V), Rp w K H F v d → Rp w K H' F' v d
  | .none, _, h => by cases h; exact .non
  | .bool _, _, h => by cases h; exact .bl _
  | .int _, _, h => by cases h; exact .int _
  | .str _, _, h => by cases h; exact .str _
  | .list ds, _, h => by cases h with | lst h1 h2 => exact .lst (h1.mono k f) (RpA.mono k f ds _ h2)
  | .tuple ds, _, h => by cases h with | tup h1 h2 => exact .tup (SqT.mono k.tup k.frz h1) (RpA.mono k f ds _ h2)
  | .dict kvs, _, h => by cases h with | dic h1 h2 h3 => exact .dic (k.own _ _ h2 h1) (f _ h2) (RpK.mono k f kvs _ h3)
theorem RpA.mono (k : Keep F H H') (f : ∀ a, F a → F' a) : ∀ (ds : List D) (vs : List V), RpA w K H F vs ds → RpA w K H' F' vs ds
  | [], _, h => by cases h; exact .nil
  | d :: ds, _, h => by cases h with | cons h1 h2 => exact .cons (Rp.mono k f d _ h1) (RpA.mono k f ds _ h2)
theorem RpK.mono (k : Keep F H H') (f : ∀ a, F a → F' a) : ∀ (kvs : List (D × D)) (es : List (NK × Addr × V)), RpK w K H F es kvs → RpK w K H' F' es kvs
  | [], _, h => by cases h; exact .nil
  | (dk, dv) :: kvs, _, h => by cases h with | cons h1 h2 h3 h4 h5 h6 => exact .cons h1 h2 h3 (Rp.mono k f dk _ h4) (Rp.mono k f dv _ h5) (RpK.mono k f kvs _ h6)
end
/-- the heap grows -/
abbrev Le (H H' : Hp) : Prop := ∀ a o, H a = some o → H' a = some o
theorem Le.keep (h : Le H H') : Keep F H H' := ⟨fun a xs e => h a _ e, fun a o u e => h a _ e, fun a o _ e => h a o e⟩
theorem Le.refl : Le H H := fun _ _ e => e
theorem Le.trans {H'' : Hp} (a : Le H H') (b : Le H' H'') : Le H H'' := fun x o e => b x o (a x o e)
theorem Le.new {p : Addr} {o : HO} (hp : H p = none) : Le H (upd H p o) := fun a u e => by
  rw [upd_ne (ne_of_none e hp)]; exact e
/-- the object at l is changed: a list or a dict outside F -/
theorem Keep.upd {l : Addr} {o u : HO} (hl : H l = some u) (hm : Mut (some u)) (hf : ¬ F l) : Keep F H (upd H l o) where
  tup a xs e := by
    rw [upd_ne]; exact e
    rintro rfl; rw [hl] at e; cases e; exact hm
  frz a o' u' e := by
    rw [upd_ne]; exact e
    rintro rfl; rw [hl] at e; cases e; exact hm
  own a o' h e := by
    rw [upd_ne]; exact e
    rintro rfl; exact hf h
abbrev All : Addr → Prop := fun _ => True
theorem Rp.all {v : V} {d : D} (h : Rp w K H F v d) : Rp w K H All v d := Rp.mono Le.refl.keep (fun _ _ => True.intro) d v h
theorem RpA.all {v : List V} {d : List D} (h : RpA w K H F v d) : RpA w K H All v d := RpA.mono Le.refl.keep (fun _ _ => True.intro) d v h
mutual
theorem Rp.imm : ∀ (d : D) (v : V), TS.imm d = true → Rp w K H F v d → Rp w K H F' v d
  | .none, _, _, h => by cases h; exact .non
  | .bool _, _, _, h => by cases h; exact .bl _
  | .int _, _, _, h => by cases h; exact .int _
  | .str _, _, _, h => by cases h; exact .str _
  | .list ds, _, i, h => by simp [TS.imm] at i
  | .tuple ds, _, i, h => by cases h with | tup h1 h2 => exact .tup h1 (RpA.imm ds _ (by simpa [TS.imm] using i) h2)
  | .dict kvs, _, i, h => by simp [TS.imm] at i
theorem RpA.imm : ∀ (ds : List D) (vs : List V), TS.immA ds = true → RpA w K H F vs ds → RpA w K H F' vs ds
  | [], _, _, h => by cases h; exact .nil
  | d :: ds, _, i, h => by
    cases h with
    | cons h1 h2 =>
      have i' : TS.imm d = true ∧ TS.immA ds = true := by simpa [TS.immA] using i
      exact .cons (Rp.imm d _ i'.1 h1) (RpA.imm ds _ i'.2 h2)
end
theorem RpA.length : ∀ {vs : List V} {ds : List D}, RpA w K H F vs ds → vs.length = ds.length
  | _, _, .nil => rfl
  | _, _, .cons _ h => by simp [RpA.length h]
theorem RpA.get : ∀ {vs : List V} {ds : List D} {i : Nat} {d : D}, RpA w K H F vs ds → ds[i]? = some d → ∃ v, vs[i]? = some v ∧ Rp w K H F v d
  | _, _, _, _, .nil, e => by simp at e
  | _, _, 0, _, .cons h1 _, e => by simp at e; subst e; exact ⟨_, rfl, h1⟩
  | _, _, i + 1, _, .cons _ h2, e => by
    obtain ⟨v, h3, h4⟩ := RpA.get (i := i) h2 (by simpa using e)
    exact ⟨v, by simpa using h3, h4⟩
theorem RpA.append : ∀ {vs ws : List V} {ds es : List D}, RpA w K H F vs ds → RpA w K H F ws es → RpA w K H F (vs ++ ws) (ds ++ es)
  | _, _, _, _, .nil, h => h
  | _, _, _, _, .cons h1 h2, h => .cons h1 (RpA.append h2 h)
theorem RpA.take : ∀ {vs : List V} {ds : List D} (n : Nat), RpA w K H F vs ds → RpA w K H F (vs.take n) (ds.take n)
  | _, _, 0, _ => .nil
  | _, _, _ + 1, .nil => .nil
  | _, _, n + 1, .cons h1 h2 => .cons h1 (RpA.take n h2)
theorem RpA.drop : ∀ {vs : List V} {ds : List D} (n : Nat), RpA w K H F vs ds → RpA w K H F (vs.drop n) (ds.drop n)
  | _, _, 0, h => h
  | _, _, _ + 1, .nil => .nil
  | _, _, n + 1, .cons h1 h2 => RpA.drop n h2
mutual
theorem Rp.dp : ∀ (d : D) (v : V), PyData.canLay0 d = true → Rp w K H F v d → Dp K H v d
  | .none, _, _, h => by cases h; exact .non
  | .bool _, _, _, h => by cases h; exact .bl _
  | .int _, _, _, h => by cases h; exact .int _
  | .str _, _, _, h => by cases h; exact .str _
  | .list ds, _, i, h => by cases h with | lst h1 h2 => exact .lst h1.sq (RpA.dp ds _ (by simpa [PyData.canLay0] using i) h2)
  | .tuple ds, _, i, h => by cases h with | tup h1 h2 => exact .tup h1 (RpA.dp ds _ (by simpa [PyData.canLay0] using i) h2)
  | .dict kvs, _, i, h => by simp [PyData.canLay0] at i
theorem RpA.dp : ∀ (ds : List D) (vs : List V), PyData.canLayAll0 ds = true → RpA w K H F vs ds → DpAll K H vs ds
  | [], _, _, h => by cases h; exact .nil
  | d :: ds, _, i, h => by
    cases h with
    | cons h1 h2 =>
      have i' : PyData.canLay0 d = true ∧ PyData.canLayAll0 ds = true := by simpa [PyData.canLayAll0] using i
      exact .cons (Rp.dp d _ i'.1 h1) (RpA.dp ds _ i'.2 h2)
end
end

/-- a body's standing: the entry's heap and what of it is never changed -/
structure Cc where
  w : World
  K : Frg
  H0 : Hp
  F0 : Addr → Prop
  W : WX
  fx : Nat → Option V

def isOwn : RV → Bool
  | .val _ => false
  | _ => true
/-- slot i holds what is register i's own, at a -/
def Own (σ : L2.St) (ρ : Regs) (i : Nat) (a : Addr) : Prop := σ[i]? = some (some (.ref a)) ∧ ∃ r, ρ[i]? = some (some r) ∧ isOwn r = true
/-- what a value is, by the register that is to hold it -/
def RvAt (C : Cc) (H : Hp) (F : Addr → Prop) (v : V) : RV → Prop
  | .val d => Rp C.w C.K H F v d
  | .ownL ds => ∃ a xs, v = .ref a ∧ H a = some (.lst xs) ∧ ¬ F a ∧ C.H0 a = none ∧ RpA C.w C.K H F xs ds
  | .ownD kvs => ∃ a es ep, v = .ref a ∧ H a = some (dicO C.w a es ep) ∧ ¬ F a ∧ C.H0 a = none ∧ RpK C.w C.K H F es kvs
structure SR (C : Cc) (H : Hp) (F : Addr → Prop) (σ : L2.St) (ρ : Regs) : Prop where
  len : ρ.length = σ.length
  at_ : ∀ (i : Nat) (r : RV), ρ[i]? = some (some r) → ∃ v, σ[i]? = some (some v) ∧ RvAt C H F v r
  dist : ∀ (i j : Nat) (a : Addr), Own σ ρ i a → Own σ ρ j a → i = j
  h0 : Le C.H0 H
  f0 : ∀ a, C.F0 a → F a
  fnew : ∀ a, F a → C.F0 a ∨ C.H0 a = none
  fdom : ∀ a, F a → ∃ o, H a = some o
  fx : ∀ i v, C.fx i = some v → σ[i]? = some (some v)

section
variable {C : Cc} {H H' : Hp} {F F' : Addr → Prop} {σ : L2.St} {ρ : Regs}
theorem RvAt.le {v : V} (h : Le H H') : ∀ {r : RV}, RvAt C H F v r → RvAt C H' F v r
  | .val d, x => Rp.mono h.keep (fun _ z => z) d v x
  | .ownL ds, ⟨a, xs, e, h1, h2, h3, h4⟩ => ⟨a, xs, e, h _ _ h1, h2, h3, RpA.mono h.keep (fun _ z => z) ds xs h4⟩
  | .ownD kvs, ⟨a, es, ep, e, h1, h2, h3, h4⟩ => ⟨a, es, ep, e, h _ _ h1, h2, h3, RpK.mono h.keep (fun _ z => z) kvs es h4⟩
theorem SR.le (s : SR C H F σ ρ) (h : Le H H') : SR C H' F σ ρ :=
  ⟨s.len, fun i r e => let ⟨v, h1, h2⟩ := s.at_ i r e; ⟨v, h1, h2.le h⟩, s.dist, s.h0.trans h, s.f0, s.fnew, fun a e => let ⟨o, q⟩ := s.fdom a e; ⟨o, h _ _ q⟩, s.fx⟩
/-- where a register's own thing stands -/
theorem SR.own_at (s : SR C H F σ ρ) {i : Nat} {a : Addr} (o : Own σ ρ i a) : (∃ u, H a = some u ∧ Mut (some u)) ∧ ¬ F a ∧ C.H0 a = none := by
  obtain ⟨e, r, er, ho⟩ := o
  obtain ⟨v, h1, h2⟩ := s.at_ i r er
  rw [e] at h1; cases h1
  cases r with
  | val _ => cases ho
  | ownL ds =>
    obtain ⟨b, xs, q, h3, h4, h5, _⟩ := h2
    cases q
    exact ⟨⟨_, h3, True.intro⟩, h4, h5⟩
  | ownD kvs =>
    obtain ⟨b, es, ep, q, h3, h4, h5, _⟩ := h2
    cases q
    exact ⟨⟨_, h3, True.intro⟩, h4, h5⟩
/-- something at p that no register owns, that was not there at the entry, never changes from now on -/
theorem SR.freeze (s : SR C H F σ ρ) {p : Addr} {o : HO} (hp : H p = some o) (h0 : C.H0 p = none) (no : ∀ i, ¬ Own σ ρ i p) : SR C H (fun a => F a ∨ a = p) σ ρ := by
  refine ⟨s.len, fun i r e => ?_, s.dist, s.h0, fun a h => .inl (s.f0 a h), fun a h => ?_, fun a h => ?_, s.fx⟩
  · obtain ⟨v, h1, h2⟩ := s.at_ i r e
    refine ⟨v, h1, ?_⟩
    cases r with
    | val d => exact Rp.mono Le.refl.keep (fun _ z => .inl z) d v h2
    | ownL ds =>
      obtain ⟨a, xs, q, h3, h4, h5, h6⟩ := h2
      subst q
      refine ⟨a, xs, rfl, h3, fun z => ?_, h5, RpA.mono Le.refl.keep (fun _ z => .inl z) ds xs h6⟩
      rcases z with z | z
      · exact h4 z
      · exact no i (z ▸ ⟨h1, _, e, rfl⟩)
    | ownD kvs =>
      obtain ⟨a, es, ep, q, h3, h4, h5, h6⟩ := h2
      subst q
      refine ⟨a, es, ep, rfl, h3, fun z => ?_, h5, RpK.mono Le.refl.keep (fun _ z => .inl z) kvs es h6⟩
      rcases z with z | z
      · exact h4 z
      · exact no i (z ▸ ⟨h1, _, e, rfl⟩)
  · rcases h with h | h
    · exact s.fnew a h
    · subst h; exact .inr h0
  · rcases h with h | h
    · exact s.fdom a h
    · subst h; exact ⟨o, hp⟩
theorem SR.not_own (s : SR C H F σ ρ) {p : Addr} (hp : H p = none) (i : Nat) : ¬ Own σ ρ i p := fun o => by
  obtain ⟨⟨u, h, _⟩, _⟩ := s.own_at o
  rw [hp] at h; cases h
theorem SR.fresh0 (s : SR C H F σ ρ) {p : Addr} (hp : H p = none) : C.H0 p = none := by
  cases e : C.H0 p with
  | none => rfl
  | some o => have := s.h0 _ _ e; rw [hp] at this; cases this
theorem SR.freshF (s : SR C H F σ ρ) {p : Addr} (hp : H p = none) : ¬ F p := fun h => by
  obtain ⟨o, e⟩ := s.fdom p h
  rw [hp] at e; cases e
end
end TS
/-! T1: the judgements, names, constants, displays, operators -/
namespace TS
open PySem PySem.Spec PyProof.Rows L2

abbrev ER (α : Type) := Option (Sum α Exc)
def eb {α β : Type} (x : ER α) (f : α → ER β) : ER β :=
  match x with
  | some (.inl a) => f a
  | some (.inr e) => some (.inr e)
  | none => none
def ok {α : Type} (a : α) : ER α := some (.inl a)
@[simp] theorem eb_ok {α β : Type} (a : α) (f : α → ER β) : eb (ok a) f = f a := rfl
@[simp] theorem eb_inl {α β : Type} (a : α) (f : α → ER β) : eb (some (.inl a)) f = f a := rfl
@[simp] theorem eb_inr {α β : Type} (e : Exc) (f : α → ER β) : eb (some (.inr e)) f = some (.inr e) := rfl
@[simp] theorem eb_none {α β : Type} (f : α → ER β) : eb none f = none := rfl
/-- a pure step that may be undefined -/
def lift {α : Type} (x : Option α) : ER α := x.map .inl
@[simp] theorem lift_some {α : Type} (a : α) : lift (some a) = ok a := rfl
@[simp] theorem lift_none {α : Type} : lift (none : Option α) = none := rfl
theorem eb_inl_iff {α β : Type} {x : ER α} {f : α → ER β} {b : β} : eb x f = some (.inl b) ↔ ∃ a, x = some (.inl a) ∧ f a = some (.inl b) := by
  cases x with
  | none => simp
  | some s => cases s <;> simp
theorem eb_inr_iff {α β : Type} {x : ER α} {f : α → ER β} {e : Exc} : eb x f = some (.inr e) ↔ x = some (.inr e) ∨ ∃ a, x = some (.inl a) ∧ f a = some (.inr e) := by
  cases x with
  | none => simp
  | some s => cases s <;> simp
abbrev EM := Regs → ER RV
abbrev OM := Regs → ER D
abbrev BM := Regs → ER Bool
abbrev LM := Regs → ER (List D)

/-- the exception x, as the layer tells of it -/
def XOk' (w : World) (K : Frg) (mg : Str → Option Value) (x : Exc) (cls : Value) (d : Option Addr) (H : Hp) : Prop :=
  mg (Str.ofString x.cls) = some cls ∧ match x.fld with
  | none => d = none
  | some (f, dat) => ∃ dd v, d = some dd ∧ H dd = some (.xd [(f, v)]) ∧ Rp w K H All v dat
abbrev XOk (C : Cc) (mg : Str → Option Value) (x : Exc) (cls : Value) (d : Option Addr) (H : Hp) : Prop := XOk' C.w C.K mg x cls d H
/-- from one state on to another: all that stood stands, the registers are what they were -/
structure Gr (C : Cc) (σ : L2.St) (ρ : Regs) (H : Hp) (F : Addr → Prop) (H' : Hp) (F' : Addr → Prop) : Prop where
  le : Le H H'
  ff : ∀ a, F a → F' a
  sr : SR C H' F' σ ρ
  sr0 : SR C H F σ ρ
def RvNew (C : Cc) (H H' : Hp) (F' : Addr → Prop) (v : V) (r : RV) : Prop := RvAt C H' F' v r ∧ (isOwn r = true → ∃ a, v = .ref a ∧ H a = none)

def XWant (C : Cc) (mg : Str → Option Value) (σ : L2.St) (ρ : Regs) (H : Hp) (F : Addr → Prop) (x : Exc) : Prop :=
  ∀ cls d H' F', Gr C σ ρ H F H' F' → XOk C mg x cls d H' → C.W cls d σ H'
def tM {α : Type} (C : Cc) (mg : Str → Option Value) (m : Regs → ER α) (Y : L2.St → Regs → Hp → (Addr → Prop) → α → Prop) : L2.St → Hp → Prop := fun σ H =>
  ∃ ρ F r, SR C H F σ ρ ∧ m ρ = some r ∧ match r with
    | .inl a => Y σ ρ H F a
    | .inr x => XWant C mg σ ρ H F x
def tE (C : Cc) (mg : Str → Option Value) (m : EM) : TE := fun σ H Q => tM C mg m (fun σ ρ H F rv => ∀ v H' F', Gr C σ ρ H F H' F' → RvNew C H H' F' v rv → Q v H') σ H
def tO (C : Cc) (mg : Str → Option Value) (m : OM) : TE := fun σ H Q => tM C mg m (fun σ ρ H F d => ∀ v H' F', Gr C σ ρ H F H' F' → Rp C.w C.K H' All v d → Q v H') σ H
def tV (C : Cc) (mg : Str → Option Value) (m : OM) : TE := fun σ H Q => tM C mg m (fun σ ρ H F d => ∀ v H' F', Gr C σ ρ H F H' F' → Rp C.w C.K H' F' v d → Q v H') σ H
def tB (C : Cc) (mg : Str → Option Value) (m : BM) : TT := fun σ H Q => tM C mg m (fun σ ρ H F b => ∀ H' F', Gr C σ ρ H F H' F' → Q b H') σ H
def tL (C : Cc) (mg : Str → Option Value) (m : LM) : TA := fun σ H Q => tM C mg m (fun σ ρ H F ds => ∀ vs H' F', Gr C σ ρ H F H' F' → RpA C.w C.K H' All vs ds → Q vs H') σ H
def tLV (C : Cc) (mg : Str → Option Value) (m : LM) : TA := fun σ H Q => tM C mg m (fun σ ρ H F ds => ∀ vs H' F', Gr C σ ρ H F H' F' → RpA C.w C.K H' F' vs ds → Q vs H') σ H

/-- the layer's context serves ours -/
structure Cok (X : Cx) (C : Cc) : Prop where
  K : C.K = X.K
  w : C.w = X.w
  nd : X.N.Nodup
  un : X.A.units + 100 < cLine
  tk : Takes X C.W

def DE (X : Cx) (C : Cc) (e : Expr) (m : EM) : Prop := PE X e (tE C X.mg m)
def DO (X : Cx) (C : Cc) (e : Expr) (m : OM) : Prop := PE X e (tO C X.mg m)
def DV (X : Cx) (C : Cc) (e : Expr) (m : OM) : Prop := PE X e (tV C X.mg m)
def DB (X : Cx) (C : Cc) (e : Expr) (m : BM) : Prop := PT X e (tB C X.mg m)
def DW (X : Cx) (C : Cc) (e : Expr) (m : BM) : Prop := PW X e (tB C X.mg m)
def DL (X : Cx) (C : Cc) (es : List Expr) (m : LM) : Prop := PA X es (tL C X.mg m)
def DLV (X : Cx) (C : Cc) (es : List Expr) (m : LM) : Prop := PA X es (tLV C X.mg m)

theorem PE.imp {X : Cx} {e : Expr} {t t' : TE} (h : PE X e t) (i : ∀ σ H Q, t' σ H Q → t σ H Q) : PE X e t' := ⟨fun pins s σ H Q I q => h.run pins s σ H Q I (i σ H Q q)⟩
theorem PT.imp {X : Cx} {e : Expr} {t t' : TT} (h : PT X e t) (i : ∀ σ H Q, t' σ H Q → t σ H Q) : PT X e t' := ⟨fun pins s σ H Q I q => h.run pins s σ H Q I (i σ H Q q)⟩
theorem PW.imp {X : Cx} {e : Expr} {t t' : TT} (h : PW X e t) (i : ∀ σ H Q, t' σ H Q → t σ H Q) : PW X e t' := ⟨fun wh pins s σ H Q I q => h.run wh pins s σ H Q I (i σ H Q q)⟩
theorem PA.imp {X : Cx} {e : List Expr} {t t' : TA} (h : PA X e t) (i : ∀ σ H Q, t' σ H Q → t σ H Q) : PA X e t' := ⟨fun pos pins s σ H Q I q => h.run pos pins s σ H Q I (i σ H Q q)⟩

section
variable {C : Cc} {mg : Str → Option Value} {H H' H'' : Hp} {F F' F'' : Addr → Prop} {σ : L2.St} {ρ : Regs}
theorem Gr.refl (s : SR C H F σ ρ) : Gr C σ ρ H F H F := ⟨Le.refl, fun _ h => h, s, s⟩
theorem Gr.trans (a : Gr C σ ρ H F H' F') (b : Gr C σ ρ H' F' H'' F'') : Gr C σ ρ H F H'' F'' := ⟨a.le.trans b.le, fun x h => b.ff x (a.ff x h), b.sr, a.sr0⟩
theorem Gr.new {p : Addr} {o : HO} (s : SR C H F σ ρ) (hp : H p = none) : Gr C σ ρ H F (upd H p o) F := ⟨Le.new hp, fun _ h => h, s.le (Le.new hp), s⟩
theorem Gr.all {v : V} {d : D} (g : Gr C σ ρ H F H' F') (h : Rp C.w C.K H All v d) : Rp C.w C.K H' All v d := Rp.mono g.le.keep (fun _ z => z) d v h
theorem Gr.allA {v : List V} {d : List D} (g : Gr C σ ρ H F H' F') (h : RpA C.w C.K H All v d) : RpA C.w C.K H' All v d := RpA.mono g.le.keep (fun _ z => z) d v h
theorem Gr.rp {v : V} {d : D} (g : Gr C σ ρ H F H' F') (h : Rp C.w C.K H F v d) : Rp C.w C.K H' F' v d := Rp.mono g.le.keep g.ff d v h
theorem Gr.rpA {v : List V} {d : List D} (g : Gr C σ ρ H F H' F') (h : RpA C.w C.K H F v d) : RpA C.w C.K H' F' v d := RpA.mono g.le.keep g.ff d v h
theorem RvNew.back {H₀ : Hp} {F' : Addr → Prop} {v : V} {r : RV} (h : Le H₀ H) (x : RvNew C H H' F' v r) : RvNew C H₀ H' F' v r :=
  ⟨x.1, fun o => let ⟨a, e, n⟩ := x.2 o; ⟨a, e, by
    cases q : H₀ a with
    | none => rfl
    | some u => have := h _ _ q; rw [n] at this; cases this⟩⟩
theorem XWant.step {x : Exc} (g : Gr C σ ρ H F H' F') (h : XWant C mg σ ρ H F x) : XWant C mg σ ρ H' F' x := fun cls d H2 F2 g2 k => h cls d H2 F2 (g.trans g2) k
/-- a fresh thing of its own is let go: from now on it never changes -/
theorem RvNew.frozen {v : V} {r : RV} (g : Gr C σ ρ H F H' F') (x : RvNew C H H' F' v r) : ∃ F2, Gr C σ ρ H F H' F2 ∧ Rp C.w C.K H' F2 v r.dat := by
  obtain ⟨x, hn⟩ := x
  cases r with
  | val d => exact ⟨F', g, x⟩
  | ownL ds =>
    obtain ⟨a, xs, e, h1, h2, h3, h4⟩ := x
    subst e
    obtain ⟨b, e, n⟩ := hn rfl
    cases e
    have no := g.sr0.not_own n
    exact ⟨fun b => F' b ∨ b = a, ⟨g.le, fun b h => .inl (g.ff b h), g.sr.freeze h1 h3 no, g.sr0⟩, .lst (.inl ⟨h1, .inr rfl⟩) (RpA.mono Le.refl.keep (fun _ z => .inl z) ds xs h4)⟩
  | ownD kvs =>
    obtain ⟨a, es, ep, e, h1, h2, h3, h4⟩ := x
    subst e
    obtain ⟨b, e, n⟩ := hn rfl
    cases e
    have no := g.sr0.not_own n
    exact ⟨fun b => F' b ∨ b = a, ⟨g.le, fun b h => .inl (g.ff b h), g.sr.freeze h1 h3 no, g.sr0⟩, .dic h1 (.inr rfl) (RpK.mono Le.refl.keep (fun _ z => .inl z) kvs es h4)⟩
theorem RvNew.all {v : V} {r : RV} (x : RvNew C H H' F' v r) : Rp C.w C.K H' All v r.dat := by
  obtain ⟨x, hn⟩ := x
  cases r with
  | val d => exact x.all
  | ownL ds =>
    obtain ⟨a, xs, e, h1, h2, h3, h4⟩ := x
    subst e
    exact .lst (.inl ⟨h1, True.intro⟩) h4.all
  | ownD kvs =>
    obtain ⟨a, es, ep, e, h1, h2, h3, h4⟩ := x
    subst e
    exact .dic h1 True.intro (RpK.mono Le.refl.keep (fun _ _ => True.intro) kvs es h4)
end

/-! ### from one judgement to another -/
section
variable {X : Cx} {C : Cc} {e : Expr}
/-- the value alone, whatever may become of it -/
def oE (m : EM) : OM := fun ρ => eb (m ρ) fun r => ok r.dat
/-- a value that is let go -/
def eV (m : OM) : EM := fun ρ => eb (m ρ) fun d => ok (.val d)
theorem tM_eb {α β : Type} {C : Cc} {mg : Str → Option Value} {m : Regs → ER α} {f : Regs → α → ER β} {Y : L2.St → Regs → Hp → (Addr → Prop) → β → Prop} {Z : L2.St → Regs → Hp → (Addr → Prop) → α → Prop} {σ : L2.St} {H : Hp}
    {mm : Regs → ER β} (h : tM C mg mm Y σ H) (hmm : mm = fun ρ => eb (m ρ) (f ρ))
    (hz : ∀ ρ F a, SR C H F σ ρ → m ρ = some (.inl a) → (∀ b, f ρ a = some (.inl b) → Y σ ρ H F b) → (∀ x, f ρ a = some (.inr x) → XWant C mg σ ρ H F x) → (∃ r, f ρ a = some r) → Z σ ρ H F a) : tM C mg m Z σ H := by
  obtain ⟨ρ, F, r, s, e, q⟩ := h
  subst hmm
  have e : eb (m ρ) (f ρ) = some r := e
  cases hm : m ρ with
  | none => rw [hm] at e; cases e
  | some sm =>
    cases sm with
    | inr x =>
      rw [hm] at e
      cases e
      exact ⟨ρ, F, _, s, hm, q⟩
    | inl a =>
      rw [hm] at e
      have e : f ρ a = some r := e
      refine ⟨ρ, F, _, s, hm, hz ρ F a s hm (fun b eb => ?_) (fun x ex => ?_) ⟨r, e⟩⟩
      · rw [eb] at e; cases e; exact q
      · rw [ex] at e; cases e; exact q
theorem eb_O {β : Type} {C : Cc} {mg : Str → Option Value} {m : OM} {f : Regs → D → ER β} {Y : L2.St → Regs → Hp → (Addr → Prop) → β → Prop} {mm : Regs → ER β} {σ : L2.St} {H : Hp} {R : V → Hp → Prop} (h : tM C mg mm Y σ H) (hmm : mm = fun ρ => eb (m ρ) (f ρ))
    (hz : ∀ ρ F d, SR C H F σ ρ → (∀ b, f ρ d = some (.inl b) → Y σ ρ H F b) → (∀ x, f ρ d = some (.inr x) → XWant C mg σ ρ H F x) → (∃ r, f ρ d = some r) → ∀ v H' F', Gr C σ ρ H F H' F' → Rp C.w C.K H' All v d → R v H') : tO C mg m σ H R :=
  tM_eb h hmm fun ρ F d s _ hy hx hr => hz ρ F d s hy hx hr
theorem eb_V {β : Type} {C : Cc} {mg : Str → Option Value} {m : OM} {f : Regs → D → ER β} {Y : L2.St → Regs → Hp → (Addr → Prop) → β → Prop} {mm : Regs → ER β} {σ : L2.St} {H : Hp} {R : V → Hp → Prop} (h : tM C mg mm Y σ H) (hmm : mm = fun ρ => eb (m ρ) (f ρ))
    (hz : ∀ ρ F d, SR C H F σ ρ → (∀ b, f ρ d = some (.inl b) → Y σ ρ H F b) → (∀ x, f ρ d = some (.inr x) → XWant C mg σ ρ H F x) → (∃ r, f ρ d = some r) → ∀ v H' F', Gr C σ ρ H F H' F' → Rp C.w C.K H' F' v d → R v H') : tV C mg m σ H R :=
  tM_eb h hmm fun ρ F d s _ hy hx hr => hz ρ F d s hy hx hr
theorem eb_E {β : Type} {C : Cc} {mg : Str → Option Value} {m : EM} {f : Regs → RV → ER β} {Y : L2.St → Regs → Hp → (Addr → Prop) → β → Prop} {mm : Regs → ER β} {σ : L2.St} {H : Hp} {R : V → Hp → Prop} (h : tM C mg mm Y σ H) (hmm : mm = fun ρ => eb (m ρ) (f ρ))
    (hz : ∀ ρ F d, SR C H F σ ρ → (∀ b, f ρ d = some (.inl b) → Y σ ρ H F b) → (∀ x, f ρ d = some (.inr x) → XWant C mg σ ρ H F x) → (∃ r, f ρ d = some r) → ∀ v H' F', Gr C σ ρ H F H' F' → RvNew C H H' F' v d → R v H') : tE C mg m σ H R :=
  tM_eb h hmm fun ρ F d s _ hy hx hr => hz ρ F d s hy hx hr
theorem eb_B {β : Type} {C : Cc} {mg : Str → Option Value} {m : BM} {f : Regs → Bool → ER β} {Y : L2.St → Regs → Hp → (Addr → Prop) → β → Prop} {mm : Regs → ER β} {σ : L2.St} {H : Hp} {R : Bool → Hp → Prop} (h : tM C mg mm Y σ H) (hmm : mm = fun ρ => eb (m ρ) (f ρ))
    (hz : ∀ ρ F d, SR C H F σ ρ → (∀ b, f ρ d = some (.inl b) → Y σ ρ H F b) → (∀ x, f ρ d = some (.inr x) → XWant C mg σ ρ H F x) → (∃ r, f ρ d = some r) → ∀ H' F', Gr C σ ρ H F H' F' → R d H') : tB C mg m σ H R :=
  tM_eb h hmm fun ρ F d s _ hy hx hr => hz ρ F d s hy hx hr
theorem eb_L {β : Type} {C : Cc} {mg : Str → Option Value} {m : LM} {f : Regs → List D → ER β} {Y : L2.St → Regs → Hp → (Addr → Prop) → β → Prop} {mm : Regs → ER β} {σ : L2.St} {H : Hp} {R : List V → Hp → Prop} (h : tM C mg mm Y σ H) (hmm : mm = fun ρ => eb (m ρ) (f ρ))
    (hz : ∀ ρ F d, SR C H F σ ρ → (∀ b, f ρ d = some (.inl b) → Y σ ρ H F b) → (∀ x, f ρ d = some (.inr x) → XWant C mg σ ρ H F x) → (∃ r, f ρ d = some r) → ∀ v H' F', Gr C σ ρ H F H' F' → RpA C.w C.K H' All v d → R v H') : tL C mg m σ H R :=
  tM_eb h hmm fun ρ F d s _ hy hx hr => hz ρ F d s hy hx hr
theorem eb_LV {β : Type} {C : Cc} {mg : Str → Option Value} {m : LM} {f : Regs → List D → ER β} {Y : L2.St → Regs → Hp → (Addr → Prop) → β → Prop} {mm : Regs → ER β} {σ : L2.St} {H : Hp} {R : List V → Hp → Prop} (h : tM C mg mm Y σ H) (hmm : mm = fun ρ => eb (m ρ) (f ρ))
    (hz : ∀ ρ F d, SR C H F σ ρ → (∀ b, f ρ d = some (.inl b) → Y σ ρ H F b) → (∀ x, f ρ d = some (.inr x) → XWant C mg σ ρ H F x) → (∃ r, f ρ d = some r) → ∀ v H' F', Gr C σ ρ H F H' F' → RpA C.w C.K H' F' v d → R v H') : tLV C mg m σ H R :=
  tM_eb h hmm fun ρ F d s _ hy hx hr => hz ρ F d s hy hx hr
theorem DE.toO {m : EM} (h : DE X C e m) : DO X C e (oE m) := PE.imp h fun σ H Q q => eb_E (m := m) (f := fun _ r => ok r.dat) q rfl fun ρ F a s hy hx hr v H' F' g x => hy _ rfl v H' F' g x.all
theorem DE.toV {m : EM} (h : DE X C e m) : DV X C e (oE m) := PE.imp h fun σ H Q q => eb_E (m := m) (f := fun _ r => ok r.dat) q rfl fun ρ F a s hy hx hr v H' F' g x => by
  obtain ⟨F2, g2, x2⟩ := x.frozen g
  exact hy _ rfl v H' F2 g2 x2
theorem DV.toE {m : OM} (h : DV X C e m) : DE X C e (eV m) := PE.imp h fun σ H Q q => eb_V (m := m) (f := fun _ d => ok (.val d)) q rfl fun ρ F a s hy hx hr v H' F' g x => hy (.val a) rfl v H' F' g ⟨x, fun z => by cases z⟩
theorem DV.toO {m : OM} (h : DV X C e m) : DO X C e m := PE.imp h fun σ H Q ⟨ρ, F, r, s, hm, q⟩ => ⟨ρ, F, r, s, hm, by
  cases r with
  | inl d => exact fun v H' F' g x => q v H' F' g x.all
  | inr x => exact q⟩

/-! ### names and constants -/
def oVar (i : Nat) : OM := fun ρ => match ρ[i]? with
  | some (some r) => ok r.dat
  | _ => none
def vVar (i : Nat) : OM := fun ρ => match ρ[i]? with
  | some (some (.val d)) => ok d
  | _ => none
theorem RvAt.all {C : Cc} {H : Hp} {F : Addr → Prop} {v : V} {r : RV} (x : RvAt C H F v r) : Rp C.w C.K H All v r.dat := by
  cases r with
  | val d => exact Rp.all x
  | ownL ds =>
    obtain ⟨a, xs, e, h1, h2, h3, h4⟩ := x
    subst e
    exact .lst (.inl ⟨h1, True.intro⟩) h4.all
  | ownD kvs =>
    obtain ⟨a, es, ep, e, h1, h2, h3, h4⟩ := x
    subst e
    exact .dic h1 True.intro (RpK.mono Le.refl.keep (fun _ _ => True.intro) kvs es h4)
theorem DO.var {i : Nat} {x : Str} {pos : Pos} (hN : X.N[i]? = some x) (hv : Vis X.env.scope x) (hd : (x == ("__debug__" : Str)) = false) (hcd : (x == ("__classdict__" : Str)) = false) : DO X C (.Name x pos) (oVar i) :=
  PE.imp (pe_var hN hv hd hcd) fun σ H Q ⟨ρ, F, r, s, hm, q⟩ => by
    have hm : oVar i ρ = some r := hm
    unfold oVar at hm
    split at hm
    · rename_i r' er
      cases hm
      obtain ⟨v, h1, h2⟩ := s.at_ i r' er
      exact ⟨v, h1, q v H F (.refl s) h2.all⟩
    · cases hm
theorem DV.var {i : Nat} {x : Str} {pos : Pos} (hN : X.N[i]? = some x) (hv : Vis X.env.scope x) (hd : (x == ("__debug__" : Str)) = false) (hcd : (x == ("__classdict__" : Str)) = false) : DV X C (.Name x pos) (vVar i) :=
  PE.imp (pe_var hN hv hd hcd) fun σ H Q ⟨ρ, F, r, s, hm, q⟩ => by
    have hm : vVar i ρ = some r := hm
    unfold vVar at hm
    split at hm
    · rename_i d er
      cases hm
      obtain ⟨v, h1, h2⟩ := s.at_ i (.val d) er
      exact ⟨v, h1, q v H F (.refl s) h2⟩
    · cases hm
def oC (d : D) : OM := fun _ => ok d
theorem DV.const {v : V} {d : D} (h : PE X e (tC v)) (hd : ∀ w K H F, Rp w K H F v d) : DV X C e (oC d) := PE.imp h fun σ H Q ⟨ρ, F, r, s, hm, q⟩ => by
  cases hm
  exact q v H F (.refl s) (hd _ _ _ _)
theorem DV.int {i : Int} {j pos} : DV X C (.Constant (.int i) j pos) (oC (.int i)) := DV.const pe_int fun _ _ _ _ => .int i
theorem DV.bl {b : Bool} {j pos} : DV X C (.Constant (.bool b) j pos) (oC (.bool b)) := DV.const pe_bl fun _ _ _ _ => .bl b
theorem DV.non {j pos} : DV X C (.Constant .none j pos) (oC .none) := DV.const pe_non fun _ _ _ _ => .non
theorem DV.str {x : Str} {j pos} : DV X C (.Constant (.str x) j pos) (oC (.str x)) := DV.const pe_str fun _ _ _ _ => .str x
theorem DV.gint {x : Str} {i : Int} {t : Tok} {pos : Pos} (hg : Gl X x) (hm : X.mg x = some (.int i t)) (hd : (x == ("__debug__" : Str)) = false := by decide) : DV X C (.Name x pos) (oC (.int i)) := DV.const (pe_glob (v := .int i) hg hm ⟨_, rfl⟩ hd) fun _ _ _ _ => .int i
theorem DV.gstr {x y : Str} {t : Tok} {pos : Pos} (hg : Gl X x) (hm : X.mg x = some (.str y t)) (hd : (x == ("__debug__" : Str)) = false := by decide) : DV X C (.Name x pos) (oC (.str y)) := DV.const (pe_glob (v := .str y) hg hm ⟨_, rfl⟩ hd) fun _ _ _ _ => .str y

/-! ### lists of expressions -/
def lNil : LM := fun _ => ok []
def lCons (a : OM) (l : LM) : LM := fun ρ => eb (a ρ) fun d => eb (l ρ) fun ds => ok (d :: ds)
theorem DL.nil : DL X C [] lNil := PA.imp pa_nil fun σ H Q ⟨ρ, F, r, s, hm, q⟩ => by
  cases hm
  exact q [] H F (.refl s) .nil
theorem DLV.nil : DLV X C [] lNil := PA.imp pa_nil fun σ H Q ⟨ρ, F, r, s, hm, q⟩ => by
  cases hm
  exact q [] H F (.refl s) .nil
theorem DL.cons {es : List Expr} {a : OM} {l : LM} (ha : DO X C e a) (hl : DL X C es l) (hs : starEach (e :: es) X.env = (false, eval e X.env) :: starEach es X.env := by rfl) : DL X C (e :: es) (lCons a l) :=
  PA.imp (pa_cons ha hl hs) fun σ H Q q => eb_O (m := a) (f := fun ρ d => eb (l ρ) fun ds => ok (d :: ds)) q rfl fun ρ F d s hy hx hr v H' F' g x => by
    obtain ⟨r, hr⟩ := hr
    cases hl : l ρ with
    | none => rw [hl] at hr; cases hr
    | some sl =>
      refine ⟨ρ, F', sl, g.sr, hl, ?_⟩
      rw [hl] at hy hx
      cases sl with
      | inr z => exact (hx z rfl).step g
      | inl ds => exact fun vs H2 F2 g2 xs => hy _ rfl (v :: vs) H2 F2 (g.trans g2) (.cons (g2.all x) xs)
theorem DLV.cons {es : List Expr} {a : OM} {l : LM} (ha : DV X C e a) (hl : DLV X C es l) (hs : starEach (e :: es) X.env = (false, eval e X.env) :: starEach es X.env := by rfl) : DLV X C (e :: es) (lCons a l) :=
  PA.imp (pa_cons ha hl hs) fun σ H Q q => eb_V (m := a) (f := fun ρ d => eb (l ρ) fun ds => ok (d :: ds)) q rfl fun ρ F d s hy hx hr v H' F' g x => by
    obtain ⟨r, hr⟩ := hr
    cases hl : l ρ with
    | none => rw [hl] at hr; cases hr
    | some sl =>
      refine ⟨ρ, F', sl, g.sr, hl, ?_⟩
      rw [hl] at hy hx
      cases sl with
      | inr z => exact (hx z rfl).step g
      | inl ds => exact fun vs H2 F2 g2 xs => hy _ rfl (v :: vs) H2 F2 (g.trans g2) (.cons (g2.rp x) xs)
/-- (a, b, ..), [a, b, ..] -/
def vTup (l : LM) : OM := fun ρ => eb (l ρ) fun ds => if ds.length ≤ 1000 then ok (.tuple ds) else none
def eLst (l : LM) : EM := fun ρ => eb (l ρ) fun ds => if ds.length ≤ 1000 then ok (.ownL ds) else none
theorem DV.tup {es : List Expr} {l : LM} {k : Nat} {pos : Pos} (h : DLV X C es l) : DV X C (.Tuple es k pos) (vTup l) :=
  PE.imp (pe_tup h) fun σ H Q q => eb_LV (m := l) (f := fun _ ds => if ds.length ≤ 1000 then ok (.tuple ds) else none) q rfl fun ρ F ds s hy hx hr vs H' F' g x => by
    obtain ⟨r, hr⟩ := hr
    by_cases hl : ds.length ≤ 1000
    · rw [if_pos hl] at hy
      refine ⟨by rw [x.length, sizeLine_eq]; omega, fun p hp => ?_⟩
      exact hy _ rfl _ _ F' (g.trans (.new g.sr hp)) (.tup (SqT.of upd_same) (Gr.rpA (.new (ρ := ρ) g.sr hp) x))
    · rw [if_neg hl] at hr; cases hr
theorem DE.lst {es : List Expr} {l : LM} {pos : Pos} (h : DLV X C es l) : DE X C (.List es pos) (eLst l) :=
  PE.imp (pe_lst h) fun σ H Q q => eb_LV (m := l) (f := fun _ ds => if ds.length ≤ 1000 then ok (.ownL ds) else none) q rfl fun ρ F ds s hy hx hr vs H' F' g x => by
    obtain ⟨r, hr⟩ := hr
    by_cases hl : ds.length ≤ 1000
    · rw [if_pos hl] at hy
      refine ⟨by rw [x.length, sizeLine_eq]; omega, fun p hp => ?_⟩
      have hp0 : H p = none := by
        cases e : H p with
        | none => rfl
        | some o => have := g.le _ _ e; rw [hp] at this; cases this
      exact hy _ rfl _ _ F' (g.trans (.new g.sr hp)) ⟨⟨p, vs, rfl, upd_same, g.sr.freshF hp, g.sr.fresh0 hp, Gr.rpA (.new (ρ := ρ) g.sr hp) x⟩, fun _ => ⟨p, rfl, hp0⟩⟩
    · rw [if_neg hl] at hr; cases hr
end
end TS
/-! T2: operators, comparisons, tests, items -/
namespace TS
open PySem PySem.Spec PyProof.Rows L2

section
variable {X : Cx} {C : Cc} {e a b : Expr} {pos : Pos}
/-- a value without lists and dicts may be kept -/
def vI (m : OM) : OM := fun ρ => eb (m ρ) fun d => if imm d = true then ok d else none
theorem DV.ofO {m : OM} (h : DO X C e m) : DV X C e (vI m) := PE.imp h fun σ H Q q => eb_O (m := m) (f := fun _ d => if imm d = true then ok d else none) q rfl fun ρ F d s hy hx hr v H' F' g x => by
  obtain ⟨r, hr⟩ := hr
  by_cases hi : imm d = true
  · rw [if_pos hi] at hy
    exact hy d rfl v H' F' g (Rp.imm d v hi x)
  · rw [if_neg hi] at hr; cases hr
/-- two operands -/
def e2 (f : D → D → Option RV) (ma mb : OM) : EM := fun ρ => eb (ma ρ) fun x => eb (mb ρ) fun y => lift (f x y)
def b2 (f : D → D → Option Bool) (ma mb : OM) : BM := fun ρ => eb (ma ρ) fun x => eb (mb ρ) fun y => lift (f x y)
def R2Ok (C : Cc) (r : R2) (f : D → D → Option RV) : Prop := ∀ {σ : L2.St} {ρ : Regs} {H : Hp} {F : Addr → Prop} {x y : V} {d e : D} {rv : RV} {Q : VK}, SR C H F σ ρ → Rp C.w C.K H All x d → Rp C.w C.K H All y e → f d e = some rv →
  (∀ v H' F', Gr C σ ρ H F H' F' → RvNew C H H' F' v rv → Q v H') → r x y H Q
def B2Ok (C : Cc) (r : R2) (f : D → D → Option Bool) : Prop := ∀ {σ : L2.St} {ρ : Regs} {H : Hp} {F : Addr → Prop} {x y : V} {d e : D} {b : Bool} {Q : VK}, SR C H F σ ρ → Rp C.w C.K H All x d → Rp C.w C.K H All y e → f d e = some b →
  Q (.bl b) H → r x y H Q
/-- the second operand, then what becomes of both -/
theorem two_ops {α : Type} {mg : Str → Option Value} {ma mb : OM} {f : D → D → Option α} {Y : L2.St → Regs → Hp → (Addr → Prop) → α → Prop} {mm : Regs → ER α} {σ : L2.St} {H : Hp} {R : V → V → Hp → Prop}
    (h : tM C mg mm Y σ H) (hmm : mm = fun ρ => eb (ma ρ) fun x => eb (mb ρ) fun y => lift (f x y))
    (hz : ∀ ρ F d e al, SR C H F σ ρ → f d e = some al → Y σ ρ H F al → ∀ x y H' F', Gr C σ ρ H F H' F' → Rp C.w C.K H' All x d → Rp C.w C.K H' All y e → R x y H') :
    tO C mg ma σ H fun x H1 => tO C mg mb σ H1 fun y H2 => R x y H2 :=
  eb_O (m := ma) (f := fun ρ x => eb (mb ρ) fun y => lift (f x y)) h hmm fun ρ F d s hy hx hr v H' F' g x => by
    obtain ⟨r, hr⟩ := hr
    cases hb : mb ρ with
    | none => rw [hb] at hr; cases hr
    | some sb =>
      refine ⟨ρ, F', sb, g.sr, hb, ?_⟩
      rw [hb] at hy hx hr
      cases sb with
      | inr z => exact (hx z rfl).step g
      | inl e =>
        cases hf : f d e with
        | none => simp [eb, lift, hf] at hr
        | some al => exact fun u H2 F2 g2 y => hz ρ F d e al s hf (hy al (by simp [eb, lift, hf])) v u H2 F2 (g.trans g2) (g2.all x) y
theorem DE.bin {op : Operator} {r : R2} {f : D → D → Option RV} {ma mb : OM} (ho : OpR X (binaryOp op) r) (hr : R2Ok C r f) (ha : DO X C a ma) (hb : DO X C b mb) : DE X C (.BinOp a op b pos) (e2 f ma mb) :=
  PE.imp (pe_op ho ha hb) fun σ H Q q => two_ops (f := f) q rfl fun ρ F d e al s hf hy x y H' F' g hx hy' => hr g.sr hx hy' hf fun v H2 F2 g2 hv => hy v H2 F2 (g.trans g2) (hv.back g.le)
theorem DB.cmp {op : CmpOp} {r : R2} {f : D → D → Option Bool} {ma mb : OM} (ho : OpR X (compareOp op) r) (hr : B2Ok C r f) (ha : DO X C a ma) (hb : DO X C b mb) (hm : behindInMarks op b = false) : DB X C (.Compare a [op] [b] pos) (b2 f ma mb) :=
  PT.imp (pt_cmpR ho ha hb hm) fun σ H Q q => two_ops (f := f) q rfl fun ρ F d e al s hf hy x y H' F' g hx hy' => hr g.sr hx hy' hf ⟨al, rfl, hy H' F' g⟩
/-- a test as a value -/
def oB (m : BM) : OM := fun ρ => eb (m ρ) fun b => ok (.bool b)
theorem DV.cmp {op : CmpOp} {r : R2} {f : D → D → Option Bool} {ma mb : OM} (ho : OpR X (compareOp op) r) (hr : B2Ok C r f) (ha : DO X C a ma) (hb : DO X C b mb) (hm : behindInMarks op b = false) : DV X C (.Compare a [op] [b] pos) (oB (b2 f ma mb)) :=
  PE.imp (pe_cmpR ho ha hb hm) fun σ H Q q => two_ops (f := fun x y => (f x y).map .bool) q (by funext ρ; unfold oB b2; cases ma ρ with
    | none => rfl
    | some s => cases s with
      | inr x => rfl
      | inl x => cases hb : mb ρ with
        | none => simp [hb]
        | some s => cases s with
          | inr y => simp [hb]
          | inl y => cases hf : f x y <;> simp [hb, hf, ok]) fun ρ F d e al s hf hy x y H' F' g hx hy' => by
    cases hfd : f d e with
    | none => rw [hfd] at hf; cases hf
    | some b0 =>
      rw [hfd] at hf
      cases hf
      exact hr g.sr hx hy' hfd (hy (.bl b0) H' F' g (.bl b0))

/-! ### arithmetic -/
theorem RvNew.val {H H' : Hp} {F' : Addr → Prop} {v : V} {d : D} (h : Rp C.w C.K H' F' v d) : RvNew C H H' F' v (.val d) := ⟨h, fun z => by cases z⟩
def iF (c : Int → Int → Bool) (g : Int → Int → Int) : D → D → Option RV
  | .int i, .int j => if c i j = true then some (.val (.int (g i j))) else none
  | _, _ => none
theorem iF_some {c : Int → Int → Bool} {g : Int → Int → Int} {d e : D} {rv : RV} (h : iF c g d e = some rv) : ∃ i j, d = .int i ∧ e = .int j ∧ c i j = true ∧ rv = .val (.int (g i j)) := by
  unfold iF at h
  split at h
  · split at h
    · cases h; exact ⟨_, _, rfl, rfl, by assumption, rfl⟩
    · cases h
  · cases h
theorem Rp.int_inv {w : World} {K : Frg} {H : Hp} {F : Addr → Prop} {v : V} {i : Int} (h : Rp w K H F v (.int i)) : v = .int i := by cases h; rfl
theorem Rp.str_inv {w : World} {K : Frg} {H : Hp} {F : Addr → Prop} {v : V} {i : Str} (h : Rp w K H F v (.str i)) : v = .str i := by cases h; rfl
theorem Rp.bool_inv {w : World} {K : Frg} {H : Hp} {F : Addr → Prop} {v : V} {i : Bool} (h : Rp w K H F v (.bool i)) : v = .bl i := by cases h; rfl
def yes2 : Int → Int → Bool := fun _ _ => true
theorem r2_sub : R2Ok C (rI0 fun i j => .int (i - j)) (iF yes2 fun i j => i - j) := by
  intro σ ρ H F x y d e rv Q s hx hy hf q
  obtain ⟨i, j, rfl, rfl, _, rfl⟩ := iF_some hf
  cases hx.int_inv; cases hy.int_inv
  exact ⟨i, j, rfl, rfl, q _ H F (.refl s) (.val (.int _))⟩
/-- a factor below 2 ^ 64 -/
def mulC (i j : Int) : Bool := decide (-(2 ^ 64) < i ∧ i < 2 ^ 64) || decide (-(2 ^ 64) < j ∧ j < 2 ^ 64)
theorem r2_mul : R2Ok C (rI CMul fun i j => .int (i * j)) (iF mulC fun i j => i * j) := by
  intro σ ρ H F x y d e rv Q s hx hy hf q
  obtain ⟨i, j, rfl, rfl, hc, rfl⟩ := iF_some hf
  cases hx.int_inv; cases hy.int_inv
  refine ⟨i, j, rfl, rfl, ?_, q _ H F (.refl s) (.val (.int _))⟩
  simp only [mulC, Bool.or_eq_true, decide_eq_true_eq] at hc
  exact hc
def divC (i j : Int) : Bool := decide (0 < j) && decide (j < 1073741824)
theorem r2_fdiv : R2Ok C (rI CDiv fun i j => .int (i / j)) (iF divC fun i j => i / j) := by
  intro σ ρ H F x y d e rv Q s hx hy hf q
  obtain ⟨i, j, rfl, rfl, hc, rfl⟩ := iF_some hf
  cases hx.int_inv; cases hy.int_inv
  simp only [divC, Bool.and_eq_true, decide_eq_true_eq] at hc
  exact ⟨i, j, rfl, rfl, hc, q _ H F (.refl s) (.val (.int _))⟩
def modC (i j : Int) : Bool := decide (0 < j)
theorem r2_mod : R2Ok C (rI (fun _ j => 0 < j) fun i j => .int (i % j)) (iF modC fun i j => i % j) := by
  intro σ ρ H F x y d e rv Q s hx hy hf q
  obtain ⟨i, j, rfl, rfl, hc, rfl⟩ := iF_some hf
  cases hx.int_inv; cases hy.int_inv
  simp only [modC, decide_eq_true_eq] at hc
  exact ⟨i, j, rfl, rfl, hc, q _ H F (.refl s) (.val (.int _))⟩
def powC (i j : Int) : Bool := decide (0 ≤ j) && decide (j ≤ 1000000) && decide (i.natAbs < 2 ^ 64)
theorem r2_pow : R2Ok C (rI CPow fun i j => .int (i ^ j.toNat)) (iF powC fun i j => i ^ j.toNat) := by
  intro σ ρ H F x y d e rv Q s hx hy hf q
  obtain ⟨i, j, rfl, rfl, hc, rfl⟩ := iF_some hf
  cases hx.int_inv; cases hy.int_inv
  simp only [powC, Bool.and_eq_true, decide_eq_true_eq] at hc
  exact ⟨i, j, rfl, rfl, ⟨hc.1.1, hc.1.2, hc.2⟩, q _ H F (.refl s) (.val (.int _))⟩
/-- xs + ys, lists that are read -/
def rCatQ (K : Frg) : R2 := fun x y H Q => ∃ l b xs zs, x = .ref l ∧ y = .ref b ∧ SqL K H l xs ∧ SqL K H b zs ∧ xs.length + zs.length ≤ sizeLine ∧ ∀ p, H p = none → Q (.ref p) (upd H p (.lst (xs ++ zs)))
theorem op_catQ : OpR X (binaryOp .Add) (rCatQ X.K) := by
  intro pins s σ H x y v u Q I rx ry h
  obtain ⟨l, b, xs, zs, rfl, rfl, hH, hB, hz, q⟩ := h
  cases rx
  cases ry
  obtain ⟨its, r, ⟨⟨c1, d1, dt1, sl1⟩, n, e, hc, hdn, hdt⟩, hl⟩ := I.list hH
  obtain ⟨its2, r2, ⟨⟨c2, d2, dt2, sl2⟩, n2, e2, hc2, hdn2, hdt2⟩, hl2⟩ := I.list hB
  simp only at hc hdt hc2 hdt2
  subst hc hdt hc2 hdt2
  have l1 := r.length
  have l2 := r2.length
  refine concat_meets ⟨_, e, rfl⟩ ⟨_, e2, rfl⟩ noFill_list_add seq_list_add PySem.F.slot_list_add PySem.F.entry_list_add (PySem.F.args_list_add_2 _ _) (list_addW l b its.toArray its2.toArray n n2 d1 d2 sl1 sl2 (by rw [List.size_toArray, List.size_toArray]; omega)) ⟨e, e2, ?_⟩
  have ea : its.toArray ++ its2.toArray = (its ++ its2).toArray := by simp
  rw [ea]
  exact ⟨.ref _, _, I.lnew (t' := s.toks) (r.append r2) (by rw [List.length_append]; omega), rfl, q _ I.fresh⟩
/-- a + b: numbers, texts, tuples, lists -/
def addF : D → D → Option RV
  | .int i, .int j => some (.val (.int (i + j)))
  | .str x, .str y => if x.length + y.length ≤ 1000000 then some (.val (.str (x ++ y))) else none
  | .tuple xs, .tuple ys => if xs.length + ys.length ≤ 1000000 ∧ immA xs = true ∧ immA ys = true then some (.val (.tuple (xs ++ ys))) else none
  | .list xs, .list ys => if xs.length + ys.length ≤ 1000000 ∧ immA xs = true ∧ immA ys = true then some (.ownL (xs ++ ys)) else none
  | _, _ => none
def rAddAll (K : Frg) : R2 := fun x y H Q => (rI0 fun i j => .int (i + j)) x y H Q ∨ ((fun x y H Q => ∃ i j, x = .str i ∧ y = .str j ∧ i.length + j.length ≤ sizeLine ∧ Q (.str (i ++ j)) H) : R2) x y H Q ∨ rCatA K x y H Q ∨ rCatQ K x y H Q
theorem op_addAll : OpR X (binaryOp .Add) (rAddAll X.K) := OpR.or op_add (OpR.or op_add_str (OpR.or op_catA op_catQ))
theorem r2_add (hK : C.K = X.K) : R2Ok C (rAddAll X.K) addF := by
  intro σ ρ H F x y d e rv Q s hx hy hf q
  unfold addF at hf
  split at hf
  · cases hf
    cases hx.int_inv; cases hy.int_inv
    exact .inl ⟨_, _, rfl, rfl, q _ H F (.refl s) (.val (.int _))⟩
  · split at hf
    · cases hf
      cases hx.str_inv; cases hy.str_inv
      exact .inr (.inl ⟨_, _, rfl, rfl, by rw [sizeLine_eq]; omega, q _ H F (.refl s) (.val (.str _))⟩)
    · cases hf
  · rename_i xs ys
    split at hf
    · rename_i hc
      cases hf
      cases hx with
      | tup t1 r1 =>
        cases hy with
        | tup t2 r2 =>
          rename_i a1 x1 a2 x2
          have q1 := RpA.length r1
          have q2 := RpA.length r2
          refine .inr (.inr (.inl ⟨_, _, _, _, rfl, rfl, hK ▸ t1, hK ▸ t2, by rw [sizeLine_eq]; omega, fun e => ?_, fun e1 e2 => ?_, fun e1 e2 p hp => ?_⟩))
          · subst e
            have : xs = [] := by cases xs with
              | nil => rfl
              | cons _ _ => simp at q1
            subst this
            exact q _ H F (.refl s) (.val (.tup t2 (RpA.imm _ _ hc.2.2 r2)))
          · subst e2
            have : ys = [] := by cases ys with
              | nil => rfl
              | cons _ _ => simp at q2
            subst this
            exact q _ H F (.refl s) (.val (by rw [List.append_nil]; exact .tup t1 (RpA.imm _ _ hc.2.1 r1)))
          · have g : Gr C σ ρ H F (upd H p (.tup (x1 ++ x2))) F := .new s hp
            exact q _ _ F g (.val (.tup (SqT.of upd_same) (g.rpA (RpA.append (RpA.imm _ _ hc.2.1 r1) (RpA.imm _ _ hc.2.2 r2)))))
    · cases hf
  · rename_i xs ys
    split at hf
    · rename_i hc
      cases hf
      cases hx with
      | lst t1 r1 =>
        cases hy with
        | lst t2 r2 =>
          rename_i a1 x1 a2 x2
          have q1 := RpA.length r1
          have q2 := RpA.length r2
          refine .inr (.inr (.inr ⟨_, _, _, _, rfl, rfl, hK ▸ t1.sq, hK ▸ t2.sq, by rw [sizeLine_eq]; omega, fun p hp => ?_⟩))
          have g : Gr C σ ρ H F (upd H p (.lst (x1 ++ x2))) F := .new s hp
          exact q _ _ F g ⟨⟨p, _, rfl, upd_same, s.freshF hp, s.fresh0 hp, g.rpA (RpA.append (RpA.imm _ _ hc.2.1 r1) (RpA.imm _ _ hc.2.2 r2))⟩, fun _ => ⟨p, rfl, hp⟩⟩
    · cases hf
  · cases hf
theorem DE.add (k : Cok X C) {ma mb : OM} (ha : DO X C a ma) (hb : DO X C b mb) : DE X C (.BinOp a .Add b pos) (e2 addF ma mb) := DE.bin op_addAll (r2_add k.K) ha hb
theorem DE.sub {ma mb : OM} (ha : DO X C a ma) (hb : DO X C b mb) : DE X C (.BinOp a .Sub b pos) (e2 (iF yes2 fun i j => i - j) ma mb) := DE.bin op_sub r2_sub ha hb
theorem DE.mul {ma mb : OM} (ha : DO X C a ma) (hb : DO X C b mb) : DE X C (.BinOp a .Mult b pos) (e2 (iF mulC fun i j => i * j) ma mb) := DE.bin op_mul r2_mul ha hb
theorem DE.fdiv {ma mb : OM} (ha : DO X C a ma) (hb : DO X C b mb) : DE X C (.BinOp a .FloorDiv b pos) (e2 (iF divC fun i j => i / j) ma mb) := DE.bin op_fdiv r2_fdiv ha hb
theorem DE.mod {ma mb : OM} (ha : DO X C a ma) (hb : DO X C b mb) : DE X C (.BinOp a .Mod b pos) (e2 (iF modC fun i j => i % j) ma mb) := DE.bin op_mod r2_mod ha hb
theorem DE.pow {ma mb : OM} (ha : DO X C a ma) (hb : DO X C b mb) : DE X C (.BinOp a .Pow b pos) (e2 (iF powC fun i j => i ^ j.toNat) ma mb) := DE.bin op_pow r2_pow ha hb
/-- -i -/
def vNeg (m : OM) : OM := fun ρ => eb (m ρ) fun d => match d with
  | .int i => ok (.int (-i))
  | _ => none
theorem DV.neg {ma : OM} (ha : DO X C a ma) : DV X C (.UnaryOp .USub a pos) (vNeg ma) :=
  PE.imp (pe_un un_neg ha) fun σ H Q q => eb_O (m := ma) (f := fun _ d => match d with
  | .int i => ok (.int (-i))
  | _ => none) q rfl fun ρ F d s hy hx hr v H' F' g x => by
    obtain ⟨r, hr⟩ := hr
    split at hr
    · cases x.int_inv
      exact ⟨_, rfl, hy _ rfl _ H' F' g (.int _)⟩
    · cases hr

/-! ### comparisons -/
def eqF (d e : D) : Option Bool := if SeqAt.shaped d = true ∧ SeqAt.shaped e = true then some (PyData.eqv d e) else none
def neF (d e : D) : Option Bool := if SeqAt.shaped d = true ∧ SeqAt.shaped e = true then some (!PyData.eqv d e) else none
theorem shaped_lay {d : D} (h : SeqAt.shaped d = true) : PyData.canLay0 d = true := SeqAt.canLay_of_shaped h
theorem r2_eq (hK : C.K = X.K) : B2Ok C (rEqD X.K) eqF := by
  intro σ ρ H F x y d e b Q s hx hy hf q
  unfold eqF at hf
  split at hf
  · rename_i h
    cases hf
    exact ⟨d, e, hK ▸ Rp.dp d x (shaped_lay h.1) hx, hK ▸ Rp.dp e y (shaped_lay h.2) hy, h.1, h.2, q⟩
  · cases hf
theorem r2_ne (hK : C.K = X.K) : B2Ok C (rNeD X.K) neF := by
  intro σ ρ H F x y d e b Q s hx hy hf q
  unfold neF at hf
  split at hf
  · rename_i h
    cases hf
    exact ⟨d, e, hK ▸ Rp.dp d x (shaped_lay h.1) hx, hK ▸ Rp.dp e y (shaped_lay h.2) hy, h.1, h.2, q⟩
  · cases hf
theorem Cok.u64 (k : Cok X C) : X.A.units + 64 < cLine := by have := k.un; omega
theorem DB.eq (k : Cok X C) {ma mb : OM} (ha : DO X C a ma) (hb : DO X C b mb) : DB X C (.Compare a [.Eq] [b] pos) (b2 eqF ma mb) := DB.cmp (op_eqD k.u64) (r2_eq k.K) ha hb (nomark _)
theorem DB.ne (k : Cok X C) {ma mb : OM} (ha : DO X C a ma) (hb : DO X C b mb) : DB X C (.Compare a [.NotEq] [b] pos) (b2 neF ma mb) := DB.cmp (op_neD k.u64) (r2_ne k.K) ha hb (nomark _)
theorem DV.eq (k : Cok X C) {ma mb : OM} (ha : DO X C a ma) (hb : DO X C b mb) : DV X C (.Compare a [.Eq] [b] pos) (oB (b2 eqF ma mb)) := DV.cmp (op_eqD k.u64) (r2_eq k.K) ha hb (nomark _)
theorem DV.ne (k : Cok X C) {ma mb : OM} (ha : DO X C a ma) (hb : DO X C b mb) : DV X C (.Compare a [.NotEq] [b] pos) (oB (b2 neF ma mb)) := DV.cmp (op_neD k.u64) (r2_ne k.K) ha hb (nomark _)
def ltF (p : Int → Int → Bool) : D → D → Option Bool
  | .int i, .int j => some (p i j)
  | _, _ => none
theorem r2_lt {p : Int → Int → Bool} : B2Ok C (rI0 fun i j => .bl (p i j)) (ltF p) := by
  intro σ ρ H F x y d e b Q s hx hy hf q
  unfold ltF at hf
  split at hf
  · cases hf
    cases hx.int_inv; cases hy.int_inv
    exact ⟨_, _, rfl, rfl, q⟩
  · cases hf
abbrev pLt (i j : Int) : Bool := decide (i < j)
abbrev pLe (i j : Int) : Bool := decide (i ≤ j)
abbrev pGt (i j : Int) : Bool := decide (j < i)
abbrev pGe (i j : Int) : Bool := decide (j ≤ i)
theorem DB.lt {ma mb : OM} (ha : DO X C a ma) (hb : DO X C b mb) : DB X C (.Compare a [.Lt] [b] pos) (b2 (ltF pLt) ma mb) := DB.cmp op_lt r2_lt ha hb (nomark _)
theorem DB.le {ma mb : OM} (ha : DO X C a ma) (hb : DO X C b mb) : DB X C (.Compare a [.LtE] [b] pos) (b2 (ltF pLe) ma mb) := DB.cmp op_le r2_lt ha hb (nomark _)
theorem DB.gt {ma mb : OM} (ha : DO X C a ma) (hb : DO X C b mb) : DB X C (.Compare a [.Gt] [b] pos) (b2 (ltF pGt) ma mb) := DB.cmp op_gt r2_lt ha hb (nomark _)
theorem DB.ge {ma mb : OM} (ha : DO X C a ma) (hb : DO X C b mb) : DB X C (.Compare a [.GtE] [b] pos) (b2 (ltF pGe) ma mb) := DB.cmp op_ge r2_lt ha hb (nomark _)
theorem DV.lt {ma mb : OM} (ha : DO X C a ma) (hb : DO X C b mb) : DV X C (.Compare a [.Lt] [b] pos) (oB (b2 (ltF pLt) ma mb)) := DV.cmp op_lt r2_lt ha hb (nomark _)
theorem DV.le {ma mb : OM} (ha : DO X C a ma) (hb : DO X C b mb) : DV X C (.Compare a [.LtE] [b] pos) (oB (b2 (ltF pLe) ma mb)) := DV.cmp op_le r2_lt ha hb (nomark _)
/-- t >= u of tuples that are alike -/
def geF (d e : D) : Option Bool := match d, e with
  | .tuple _, .tuple _ => if SeqAt.shaped d = true ∧ SeqAt.shaped e = true ∧ W.alike d e = true then some (!W.dataLt d e) else none
  | .int i, .int j => some (decide (j ≤ i))
  | _, _ => none
/-- x is None -/
def isNF (d e : D) : Option Bool := match e with
  | .none => some (match d with | .none => true | _ => false)
  | _ => none
def notNF (d e : D) : Option Bool := match e with
  | .none => some (match d with | .none => false | _ => true)
  | _ => none
theorem r2_isN : B2Ok C (fun x y H Q => y = .non ∧ Q (.bl (decide (x = .non))) H) isNF := by
  intro σ ρ H F x y d e b Q s hx hy hf q
  unfold isNF at hf
  split at hf
  · cases hf
    cases hy
    refine ⟨rfl, ?_⟩
    cases hx <;> exact q
  · cases hf
theorem r2_notN : B2Ok C (fun x y H Q => y = .non ∧ Q (.bl (!decide (x = .non))) H) notNF := by
  intro σ ρ H F x y d e b Q s hx hy hf q
  unfold notNF at hf
  split at hf
  · cases hf
    cases hy
    refine ⟨rfl, ?_⟩
    cases hx <;> exact q
  · cases hf
theorem DB.isN {ma mb : OM} (ha : DO X C a ma) (hb : DO X C b mb) : DB X C (.Compare a [.Is] [b] pos) (b2 isNF ma mb) := DB.cmp op_isN r2_isN ha hb (nomark _)
theorem DB.notN {ma mb : OM} (ha : DO X C a ma) (hb : DO X C b mb) : DB X C (.Compare a [.IsNot] [b] pos) (b2 notNF ma mb) := DB.cmp op_notN r2_notN ha hb (nomark _)
theorem DV.isN {ma mb : OM} (ha : DO X C a ma) (hb : DO X C b mb) : DV X C (.Compare a [.Is] [b] pos) (oB (b2 isNF ma mb)) := DV.cmp op_isN r2_isN ha hb (nomark _)
end
end TS
/-! T3: dicts whose keys are tuples -/
namespace TS
open PySem PySem.Spec PyProof.Rows L2

mutual
theorem nestedIs_of {X : Cx} {w : World} {pins : List (Addr × Obj)} {σ : L2.St} {H : Hp} {s : Shared} {F : Addr → Prop} (I : L2.Inv X pins σ H s) : ∀ (d : D) (v : V) (u : Value) (k : NK), Rp w X.K H F v d → nkey d = some k → RelV v u → NestedIs s.heap k u
  | .none, _, _, _, h, e, r => by cases h; cases e; cases r; exact .none
  | .bool b, _, _, _, h, e, r => by cases h; cases e; cases r; exact .bool rfl
  | .int i, _, _, _, h, e, r => by cases h; cases e; obtain ⟨t, rfl⟩ := r; exact .int i t
  | .str x, _, _, _, h, e, r => by cases h; cases e; obtain ⟨t, rfl⟩ := r; exact .text x t
  | .list _, _, _, _, _, e, _ => by simp [nkey] at e
  | .dict _, _, _, _, _, e, _ => by simp [nkey] at e
  | .tuple ds, _, _, k, h, e, r => by
    cases h with
    | tup h1 h2 =>
      rw [nkey] at e
      obtain ⟨ks, e1, rfl⟩ := Option.map_eq_some_iff.mp e
      cases r
      obtain ⟨its, rv, ⟨o, ho, hc, n, hd⟩, _⟩ := I.tuple h1
      exact .tup ho hc hd (by simpa using nestedAll_of I ds _ its ks h2 e1 rv)
theorem nestedAll_of {X : Cx} {w : World} {pins : List (Addr × Obj)} {σ : L2.St} {H : Hp} {s : Shared} {F : Addr → Prop} (I : L2.Inv X pins σ H s) : ∀ (ds : List D) (vs : List V) (us : List Value) (ks : List NK), RpA w X.K H F vs ds → nkeys ds = some ks → Vals vs us → NestedAll s.heap ks us
  | [], _, _, _, h, e, r => by cases h; cases e; cases r; exact .nil
  | d :: ds, _, _, ks, h, e, r => by
    cases h with
    | cons h1 h2 =>
      cases r with
      | cons r1 r2 =>
        rw [nkeys] at e
        cases e1 : nkey d with
        | none => rw [e1] at e; cases e
        | some k =>
          cases e2 : nkeys ds with
          | none => rw [e1, e2] at e; cases e
          | some ks2 =>
            rw [e1, e2] at e
            cases e
            exact .cons (nestedIs_of I d _ _ k h1 e1 r1) (nestedAll_of I ds _ _ ks2 h2 e2 r2)
end
mutual
theorem nkey_imm : ∀ (d : D) (k : NK), nkey d = some k → imm d = true
  | .none, _, _ => rfl
  | .bool _, _, _ => rfl
  | .int _, _, _ => rfl
  | .str _, _, _ => rfl
  | .list _, _, e => by simp [nkey] at e
  | .dict _, _, e => by simp [nkey] at e
  | .tuple ds, k, e => by
    rw [nkey] at e
    obtain ⟨ks, e1, _⟩ := Option.map_eq_some_iff.mp e
    rw [imm]; exact nkeys_imm ds ks e1
theorem nkeys_imm : ∀ (ds : List D) (k : List NK), nkeys ds = some k → immA ds = true
  | [], _, _ => rfl
  | d :: ds, k, e => by
    rw [nkeys] at e
    cases e1 : nkey d with
    | none => rw [e1] at e; cases e
    | some k =>
      cases e2 : nkeys ds with
      | none => rw [e1, e2] at e; cases e
      | some ks2 => rw [immA, nkey_imm d k e1, nkeys_imm ds ks2 e2]; rfl
end
/-- a tuple as a dict's key -/
def kOf (d : D) : Option NK := match d with
  | .tuple xs => match nkey (.tuple xs) with
    | some nk => if nk.depth ≤ 8 then some nk else none
    | none => none
  | _ => none
theorem kOf_some {d : D} {k : NK} (h : kOf d = some k) : (∃ xs, d = .tuple xs) ∧ nkey d = some k ∧ k.depth ≤ 8 := by
  unfold kOf at h
  split at h
  · split at h
    · split at h
      · cases h; exact ⟨⟨_, rfl⟩, by assumption, by assumption⟩
      · cases h
    · cases h
  · cases h
abbrev Ent := NK × Addr × V
def eFind (es : List Ent) (k : NK) : Option V := (es.find? fun e => decide (e.1 = k)).map (·.2.2)
def ePut (es : List Ent) (k : NK) (b : Addr) (v : V) : List Ent := if (eFind es k).isSome = true then es.map (fun e => if e.1 = k then (e.1, e.2.1, v) else e) else es ++ [(k, b, v)]
def eDrop (es : List Ent) (k : NK) : List Ent := es.filter fun e => decide (e.1 ≠ k)
def dFind (kvs : List (D × D)) (k : NK) : Option D := (kvs.find? fun e => decide (nkey e.1 = some k)).map (·.2)
def dPut (kvs : List (D × D)) (k : NK) (dk v : D) : List (D × D) := if (dFind kvs k).isSome = true then kvs.map (fun e => if nkey e.1 = some k then (e.1, v) else e) else kvs ++ [(dk, v)]
def dDrop (kvs : List (D × D)) (k : NK) : List (D × D) := kvs.filter fun e => decide (nkey e.1 ≠ some k)
section
variable {w : World} {K : Frg} {H : Hp} {F : Addr → Prop}
theorem RpK.length : ∀ {es : List Ent} {kvs : List (D × D)}, RpK w K H F es kvs → es.length = kvs.length
  | _, _, .nil => rfl
  | _, _, .cons _ _ _ _ _ h => by simp [RpK.length h]
theorem RpK.find {k : NK} : ∀ {es : List Ent} {kvs : List (D × D)}, RpK w K H F es kvs → (eFind es k = none ∧ dFind kvs k = none) ∨ ∃ v d, eFind es k = some v ∧ dFind kvs k = some d ∧ Rp w K H F v d
  | _, _, .nil => .inl ⟨rfl, rfl⟩
  | _, _, .cons (nk := nk) (dk := dk) h1 h2 h3 h4 h5 h6 => by
    by_cases e : nk = k
    · subst e
      exact .inr ⟨_, _, by simp [eFind], by simp [dFind, h1], h5⟩
    · have e2 : ¬ nkey dk = some k := by rw [h1]; exact fun z => e (Option.some.inj z)
      rcases RpK.find (k := k) h6 with ⟨q1, q2⟩ | ⟨v, d, q1, q2, q3⟩
      · exact .inl ⟨by simpa [eFind, e] using q1, by simpa [dFind, e2] using q2⟩
      · exact .inr ⟨v, d, by simpa [eFind, e] using q1, by simpa [dFind, e2] using q2, q3⟩
theorem RpK.mapPut {k : NK} {v : V} {d : D} (hv : Rp w K H F v d) : ∀ {es : List Ent} {kvs : List (D × D)}, RpK w K H F es kvs → RpK w K H F (es.map fun e => if e.1 = k then (e.1, e.2.1, v) else e) (kvs.map fun e => if nkey e.1 = some k then (e.1, d) else e)
  | _, _, .nil => .nil
  | _, _, .cons (nk := nk) (dk := dk) h1 h2 h3 h4 h5 h6 => by
    by_cases e : nk = k
    · subst e
      simp only [List.map_cons, if_pos, h1]
      exact .cons h1 h2 h3 h4 hv (RpK.mapPut hv h6)
    · have e2 : ¬ nkey dk = some k := by rw [h1]; exact fun z => e (Option.some.inj z)
      simp only [List.map_cons, if_neg e, if_neg e2]
      exact .cons h1 h2 h3 h4 h5 (RpK.mapPut hv h6)
theorem RpK.app : ∀ {es es2 : List Ent} {kvs kvs2 : List (D × D)}, RpK w K H F es kvs → RpK w K H F es2 kvs2 → RpK w K H F (es ++ es2) (kvs ++ kvs2)
  | _, _, _, _, .nil, h => h
  | _, _, _, _, .cons h1 h2 h3 h4 h5 h6, h => .cons h1 h2 h3 h4 h5 (RpK.app h6 h)
theorem RpK.put {k : NK} {b : Addr} {v : V} {dk d : D} {es : List Ent} {kvs : List (D × D)} (h : RpK w K H F es kvs) (hk : kOf dk = some k) (hb : Rp w K H F (.ref b) dk) (hv : Rp w K H F v d) : RpK w K H F (ePut es k b v) (dPut kvs k dk d) := by
  obtain ⟨_, hk1, hk2⟩ := kOf_some hk
  unfold ePut dPut
  rcases h.find (k := k) with ⟨q1, q2⟩ | ⟨v', d', q1, q2, _⟩
  · rw [q1, q2]
    exact RpK.app h (.cons hk1 hk2 (nkey_imm _ _ hk1) hb hv .nil)
  · rw [q1, q2]
    exact RpK.mapPut hv h
theorem RpK.drop {k : NK} : ∀ {es : List Ent} {kvs : List (D × D)}, RpK w K H F es kvs → RpK w K H F (eDrop es k) (dDrop kvs k)
  | _, _, .nil => .nil
  | _, _, .cons (nk := nk) (dk := dk) h1 h2 h3 h4 h5 h6 => by
    by_cases e : nk = k
    · subst e
      simp only [eDrop, dDrop, List.filter_cons, h1]
      simpa [eDrop, dDrop] using RpK.drop (k := nk) h6
    · have e2 : ¬ nkey dk = some k := by rw [h1]; exact fun z => e (Option.some.inj z)
      simp only [eDrop, dDrop, List.filter_cons, decide_eq_true_eq]
      rw [if_pos e, if_pos e2]
      exact .cons h1 h2 h3 h4 h5 (RpK.drop h6)
end
/-- the entries with their values -/
def withV : List Ent → List Value → List (NK × Addr × Value)
  | e :: es, u :: us => (e.1, e.2.1, u) :: withV es us
  | _, _ => []
theorem withV_keys : ∀ {es : List Ent} {us : List Value}, Vals (es.map (·.2.2)) us → (withV es us).map (·.1) = es.map (·.1)
  | [], _, h => by cases h; rfl
  | e :: es, _, h => by
    cases h with
    | cons h1 h2 => simp only [withV, List.map_cons, withV_keys h2]
theorem withV_length : ∀ {es : List Ent} {us : List Value}, Vals (es.map (·.2.2)) us → (withV es us).length = es.length
  | [], _, h => by cases h; rfl
  | e :: es, _, h => by
    cases h with
    | cons h1 h2 => simp only [withV, List.length_cons, withV_length h2]
theorem zip_withV {prog : Program} {w : World} : ∀ {es : List Ent} {us : List Value}, List.zipWith (fun (e : NK × Addr × V) u => (⟨e.1.hash w, .ref e.2.1, u⟩ : DictEntry)) es us = (withV es us).map (entryOfKey (nestedKind prog w))
  | [], us => by cases us <;> rfl
  | e :: es, [] => rfl
  | e :: es, u :: us => by
    show _ :: _ = _ :: _
    rw [zip_withV (prog := prog) (es := es) (us := us)]; rfl
theorem withV_at {k : NK} : ∀ {es : List Ent} {us : List Value}, Vals (es.map (·.2.2)) us → (eFind es k = none ∧ atKey (withV es us) k = none) ∨ ∃ v u b, eFind es k = some v ∧ atKey (withV es us) k = some (b, u) ∧ RelV v u
  | [], _, h => by cases h; exact .inl ⟨rfl, rfl⟩
  | e :: es, _, h => by
    cases h with
    | cons h1 h2 =>
      by_cases q : e.1 = k
      · exact .inr ⟨_, _, e.2.1, by simp only [eFind, List.find?_cons, q, decide_true, Option.map_some], by simp only [atKey, withV, List.find?_cons, q, decide_true, Option.map_some], h1⟩
      · rcases withV_at (k := k) h2 with ⟨q1, q2⟩ | ⟨v, u, b, q1, q2, q3⟩
        · exact .inl ⟨by simpa [eFind, q] using q1, by simpa [atKey, withV, q] using q2⟩
        · exact .inr ⟨v, u, b, by simpa [eFind, q] using q1, by simpa [atKey, withV, q] using q2, q3⟩

section
variable {X : Cx} {pins : List (Addr × Obj)} {σ : L2.St} {H : Hp} {s : Shared} {F : Addr → Prop} {A : Around} {E : Value → Shared → Prop}
theorem keys_is (I : L2.Inv X pins σ H s) : ∀ {es : List Ent} {kvs : List (D × D)} {us : List Value}, RpK X.w X.K H F es kvs → Vals (es.map (·.2.2)) us → ∀ x ∈ withV es us, (nestedKind X.prog X.w).is s.heap x.1 x.2.1
  | _, _, _, .nil, r, x, hx => by cases r; cases hx
  | _, _, _, .cons h1 h2 h3 h4 h5 h6, r, x, hx => by
    cases r with
    | cons r1 r2 =>
      rcases List.mem_cons.mp hx with e | hx
      · subst e
        exact ⟨nestedIs_of I _ _ _ _ h4 h1 rfl, h2⟩
      · exact keys_is I h6 r2 x hx
/-- what stands at a tracked dict -/
theorem dic_of (I : L2.Inv X pins σ H s) {a : Addr} {es : List Ent} {ep : Nat} {kvs : List (D × D)} (hH : H a = some (dicO X.w a es ep)) (hr : RpK X.w X.K H F es kvs) :
    (a == sysModules) = false ∧ es.length ≤ sizeLine ∧ ∃ us, Vals (es.map (·.2.2)) us ∧ s.heap.DictOfH (nestedKind X.prog X.w) a (withV es us) := by
  have o := I.hok a _ hH
  obtain ⟨⟨h1, h2, h3, o, des, vs, ho, hx, hd, hv, hz⟩, _⟩ := o
  refine ⟨h1, h2, vs, hv, o, des, ep, ho, hx, hd, ?_, keys_is I hr hv, ?_⟩
  · rw [hz, zip_withV (prog := X.prog)]
  · rw [withV_keys hv]; exact h3
theorem zw_nil {α β γ : Type} (f : α → β → γ) (l : List α) : List.zipWith f l [] = [] := by cases l <;> rfl
/-- a dict's object from what the library tells of it -/
theorem dic_new {P : Program} {H' : Hp} {h' : Heap} {a : Addr} {es : List Ent} {us : List Value} (h1 : (a == sysModules) = false) (h2 : es.length ≤ sizeLine) (hv : Vals (es.map (·.2.2)) us) (hm : h'.DictOfH (nestedKind X.prog X.w) a (withV es us)) :
    ∃ ep, ObjOk X.prog X.w H' h' a (dicO X.w a es ep) := by
  obtain ⟨o, des, ep, ho, hx, hd, he, _, hn⟩ := hm
  refine ⟨ep, ⟨h1, h2, by rw [← withV_keys hv]; exact hn, o, des, us, ho, hx, hd, hv, by rw [he, zip_withV (prog := X.prog)]⟩, ⟨o, ho⟩, ?_⟩
  rintro g1 g2 ⟨q1, q2, q3, o, des, vs, ho, r⟩ k
  exact ⟨q1, q2, q3, o, des, vs, k o ho, r⟩
theorem key_is (I : L2.Inv X pins σ H s) {b : Addr} {d : D} {k : NK} (hk : kOf d = some k) (h : Rp X.w X.K H F (.ref b) d) : (nestedKind X.prog X.w).is s.heap k b := by
  obtain ⟨_, h1, h2⟩ := kOf_some hk
  exact ⟨nestedIs_of I _ _ _ _ h h1 rfl, h2⟩
theorem Rp.key_ref {w : World} {K : Frg} {v : V} {d : D} {k : NK} (hk : kOf d = some k) (h : Rp w K H F v d) : ∃ b, v = .ref b := by
  obtain ⟨⟨xs, rfl⟩, _⟩ := kOf_some hk
  cases h
  exact ⟨_, rfl⟩
theorem vals_put {k : NK} {b : Addr} {v : V} {u : Value} (rv : RelV v u) : ∀ {es : List Ent} {us : List Value}, Vals (es.map (·.2.2)) us → ∃ us2, Vals ((ePut es k b v).map (·.2.2)) us2 ∧ storedH (withV es us) k b u = withV (ePut es k b v) us2 := by
  have mp : ∀ {es : List Ent} {us : List Value}, Vals (es.map (·.2.2)) us → ∃ us2, Vals ((es.map fun e => if e.1 = k then (e.1, e.2.1, v) else e).map (·.2.2)) us2 ∧ (withV es us).map (putAt k u) = withV (es.map fun e => if e.1 = k then (e.1, e.2.1, v) else e) us2 := by
    intro es
    induction es with
    | nil => intro us h; cases h; exact ⟨[], .nil, rfl⟩
    | cons e es ih =>
      intro us h
      cases h with
      | cons h1 h2 =>
        rename_i u1 us1
        obtain ⟨us2, q1, q2⟩ := ih h2
        by_cases q : e.1 = k
        · refine ⟨u :: us2, ?_, ?_⟩
          · simp only [List.map_cons, if_pos q]; exact .cons rv q1
          · simp only [withV, List.map_cons, if_pos q, q2, putAt]
        · refine ⟨u1 :: us2, ?_, ?_⟩
          · simp only [List.map_cons, if_neg q]; exact .cons h1 q1
          · simp only [withV, List.map_cons, if_neg q, q2, putAt]
  have ap : ∀ {es : List Ent} {us : List Value}, Vals (es.map (·.2.2)) us → withV es us ++ [(k, b, u)] = withV (es ++ [(k, b, v)]) (us ++ [u]) := by
    intro es
    induction es with
    | nil => intro us h; cases h; rfl
    | cons e es ih =>
      intro us h
      cases h with
      | cons h1 h2 => simp only [withV, List.cons_append, ih h2]
  intro es us h
  unfold storedH ePut
  rcases withV_at (k := k) h with ⟨q1, q2⟩ | ⟨v', u', b', q1, q2, _⟩
  · rw [q1, q2]
    refine ⟨us ++ [u], ?_, by simpa using ap h⟩
    simp only [Option.isSome_none, Bool.false_eq_true, if_false, List.map_append]
    exact Vals.append h (.cons rv .nil)
  · rw [q1, q2]
    simp only [Option.isSome_some, if_true]
    exact mp h
theorem vals_drop {k : NK} : ∀ {es : List Ent} {us : List Value}, Vals (es.map (·.2.2)) us → ∃ us2, Vals ((eDrop es k).map (·.2.2)) us2 ∧ withoutH (withV es us) k = withV (eDrop es k) us2
  | [], _, h => by cases h; exact ⟨[], .nil, rfl⟩
  | e :: es, _, h => by
    cases h with
    | cons h1 h2 =>
      rename_i u1 us1
      obtain ⟨us2, q1, q2⟩ := vals_drop (k := k) h2
      by_cases q : e.1 = k
      · refine ⟨us2, ?_, ?_⟩
        · simpa [eDrop, List.filter_cons, q] using q1
        · simpa [eDrop, withoutH, withV, List.filter_cons, q] using q2
      · refine ⟨u1 :: us2, ?_, ?_⟩
        · simp only [eDrop, List.filter_cons, decide_eq_true_eq]; rw [if_pos q]; exact .cons h1 q1
        · simp only [eDrop, withoutH, withV, List.filter_cons, decide_eq_true_eq]; rw [if_pos q, if_pos q]; simp only [withV]; congr 1
theorem ePut_length (es : List Ent) (k : NK) (b : Addr) (v : V) : (ePut es k b v).length ≤ es.length + 1 := by
  unfold ePut
  split <;> simp
theorem eDrop_length (es : List Ent) (k : NK) : (eDrop es k).length ≤ es.length := List.length_filter_le _ _
end
end TS
/-! T4: in, truth, and, or, not, if-else, items, slices -/
namespace TS
open PySem PySem.Spec PyProof.Rows L2

section
variable {X : Cx} {C : Cc} {e a b c : Expr} {pos : Pos}
/-! ### x in c -/
/-- what is asked of x in c: lists, tuples, dicts by tuples, texts of one sign -/
def inF (d e : D) : Option Bool := match e with
  | .tuple ys => if SeqAt.shaped d = true ∧ SeqAt.shaped (.tuple ys) = true then some (ys.any fun z => PyData.eqv z d) else none
  | .list ys => if SeqAt.shaped d = true ∧ SeqAt.shaped (.list ys) = true then some (ys.any fun z => PyData.eqv z d) else none
  | .dict kvs => match kOf d with
    | some k => some (dFind kvs k).isSome
    | none => none
  | .str z => match d with
    | .str c => if c.cps.size = 1 then some (decide (c.cps.getD 0 0 ∈ z.cps.toList)) else none
    | _ => none
  | _ => none
def notInF (d e : D) : Option Bool := (inF d e).map (!·)
/-- the rule's reading: what the value stands for is told by d and e -/
def rInD2 (C : Cc) (f : D → D → Option Bool) : R2 := fun x y H Q => ∃ d e b, Rp C.w C.K H All x d ∧ Rp C.w C.K H All y e ∧ f d e = some b ∧ Q (.bl b) H
theorem b2_rInD2 {f : D → D → Option Bool} : B2Ok C (rInD2 C f) f := fun {σ ρ H F x y d e b Q} s hx hy hf q => ⟨d, e, b, hx, hy, hf, q⟩
theorem lay_tuple {ys : List D} (h : SeqAt.shaped (.tuple ys) = true) : PyData.canLayAll0 ys = true := by have := SeqAt.canLay_of_shaped h; simpa [PyData.canLay0] using this
theorem lay_list {ys : List D} (h : SeqAt.shaped (.list ys) = true) : PyData.canLayAll0 ys = true := by have := SeqAt.canLay_of_shaped h; simpa [PyData.canLay0] using this
theorem Cok.u65 (k : Cok X C) : X.A.units + 65 < cLine := by have := k.un; omega
theorem Cok.room (k : Cok X C) : (nestedKind X.prog X.w).room X.A.in1 := by
  have := k.un
  show X.A.units + 1 + 8 < cLine
  omega
theorem in_sign_str {pins : List (Addr × Obj)} {σ : L2.St} {H : Hp} {s : Shared} {c z : Str} {v u : Value} {Q : VK} (I : L2.Inv X pins σ H s) (rx : RelV (.str c) v) (ry : RelV (.str z) u) (h1 : c.cps.size = 1) (q : Q (.bl (decide (c.cps.getD 0 0 ∈ z.cps.toList))) H) :
    wpAny (model X.prog X.w) X.A (compareOp .In v u) (EP X pins σ Q) X.xe s := by
  obtain ⟨⟨l⟩⟩ := c
  match l, h1 with
  | [c0], _ => exact op_in_sign pins s σ H _ _ v u Q I rx ry ⟨c0, z, rfl, rfl, q⟩
theorem notin_sign_str {pins : List (Addr × Obj)} {σ : L2.St} {H : Hp} {s : Shared} {c z : Str} {v u : Value} {Q : VK} (I : L2.Inv X pins σ H s) (rx : RelV (.str c) v) (ry : RelV (.str z) u) (h1 : c.cps.size = 1) (q : Q (.bl (!decide (c.cps.getD 0 0 ∈ z.cps.toList))) H) :
    wpAny (model X.prog X.w) X.A (compareOp .NotIn v u) (EP X pins σ Q) X.xe s := by
  obtain ⟨⟨l⟩⟩ := c
  match l, h1 with
  | [c0], _ => exact op_notIn_sign pins s σ H _ _ v u Q I rx ry ⟨c0, z, rfl, rfl, q⟩
theorem op_in2 (k : Cok X C) : OpR X (compareOp .In) (rInD2 C inF) := by
  intro pins s σ H x y v u Q I rx ry h
  obtain ⟨d, e, b, hx, hy, hf, q⟩ := h
  rw [k.K] at hx hy
  cases e with
  | tuple ys =>
    simp only [inF] at hf
    split at hf
    · rename_i hs
      cases hf
      obtain ⟨as, r1⟩ := Dp.reads I d x v (Rp.dp d x (shaped_lay hs.1) hx) rx
      obtain ⟨bs, r2⟩ := Dp.reads I (.tuple ys) y u (Rp.dp _ y (shaped_lay hs.2) hy) ry
      exact SeqAt.in_tuple_reads r2 r1 (lay_tuple hs.2) (SeqAt.canLay_of_shaped hs.1) (room_in_shaped hs.1 k.u65) ⟨.bl _, H, I, rfl, q⟩
    · cases hf
  | list ys =>
    simp only [inF] at hf
    split at hf
    · rename_i hs
      cases hf
      obtain ⟨as, r1⟩ := Dp.reads I d x v (Rp.dp d x (shaped_lay hs.1) hx) rx
      obtain ⟨bs, r2⟩ := Dp.reads I (.list ys) y u (Rp.dp _ y (shaped_lay hs.2) hy) ry
      exact SeqAt.in_list_reads r2 r1 (lay_list hs.2) (SeqAt.canLay_of_shaped hs.1) (room_in_shaped hs.1 k.u65) ⟨.bl _, H, I, rfl, q⟩
    · cases hf
  | dict kvs =>
    simp only [inF] at hf
    cases hk : kOf d with
    | none => rw [hk] at hf; cases hf
    | some nk =>
      rw [hk] at hf
      cases hf
      obtain ⟨bk, rfl⟩ := hx.key_ref hk
      rw [k.w] at hx hy
      cases hy with
      | dic h1 h2 h3 =>
        cases rx
        cases ry
        obtain ⟨q1, q2, us, q3, q4⟩ := dic_of I h1 h3
        refine wpAny_in_heap k.room (key_is I hk hx) q1 q4 ?_
        refine ⟨.bl _, H, I.tok _, rfl, ?_⟩
        rcases withV_at (k := nk) q3 with ⟨z1, z2⟩ | ⟨v', u', b', z1, z2, _⟩ <;> rcases h3.find (k := nk) with ⟨y1, y2⟩ | ⟨v2, d2, y1, y2, _⟩
        · rw [z2]; rw [y2] at q; exact q
        · rw [z1] at y1; cases y1
        · rw [z1] at y1; cases y1
        · rw [z2]; rw [y2] at q; exact q
  | str z =>
    cases d with
    | str c =>
      simp only [inF] at hf
      split at hf
      · rename_i h1
        cases hf
        cases hx.str_inv
        cases hy.str_inv
        exact in_sign_str I rx ry h1 q
      · cases hf
    | _ => simp [inF] at hf
  | _ => simp [inF] at hf
theorem op_notIn2 (k : Cok X C) : OpR X (compareOp .NotIn) (rInD2 C notInF) := by
  intro pins s σ H x y v u Q I rx ry h
  obtain ⟨d, e, b, hx, hy, hf, q⟩ := h
  rw [k.K] at hx hy
  have hm : ∃ b0, inF d e = some b0 ∧ b = !b0 := by
    unfold notInF at hf
    cases hi : inF d e with
    | none => rw [hi] at hf; cases hf
    | some b0 => rw [hi] at hf; exact ⟨b0, rfl, (Option.some.inj hf).symm⟩
  clear hf
  obtain ⟨b0, hf, hb0⟩ := hm
  subst hb0
  cases e with
  | tuple ys =>
    simp only [inF] at hf
    split at hf
    · rename_i hs
      have hf := Option.some.inj hf
      subst hf
      obtain ⟨as, r1⟩ := Dp.reads I d x v (Rp.dp d x (shaped_lay hs.1) hx) rx
      obtain ⟨bs, r2⟩ := Dp.reads I (.tuple ys) y u (Rp.dp _ y (shaped_lay hs.2) hy) ry
      exact SeqAt.notIn_tuple_reads r2 r1 (lay_tuple hs.2) (SeqAt.canLay_of_shaped hs.1) (room_in_shaped hs.1 k.u65) ⟨.bl _, H, I, rfl, q⟩
    · cases hf
  | list ys =>
    simp only [inF] at hf
    split at hf
    · rename_i hs
      have hf := Option.some.inj hf
      subst hf
      obtain ⟨as, r1⟩ := Dp.reads I d x v (Rp.dp d x (shaped_lay hs.1) hx) rx
      obtain ⟨bs, r2⟩ := Dp.reads I (.list ys) y u (Rp.dp _ y (shaped_lay hs.2) hy) ry
      exact SeqAt.notIn_list_reads r2 r1 (lay_list hs.2) (SeqAt.canLay_of_shaped hs.1) (room_in_shaped hs.1 k.u65) ⟨.bl _, H, I, rfl, q⟩
    · cases hf
  | dict kvs =>
    simp only [inF] at hf
    cases hk : kOf d with
    | none => rw [hk] at hf; cases hf
    | some nk =>
      rw [hk] at hf
      have hf := Option.some.inj hf
      subst hf
      obtain ⟨bk, rfl⟩ := hx.key_ref hk
      rw [k.w] at hx hy
      cases hy with
      | dic h1 h2 h3 =>
        cases rx
        cases ry
        obtain ⟨q1, q2, us, q3, q4⟩ := dic_of I h1 h3
        show wpAny _ _ ((contains (Value.ref _) (Value.ref bk)) >>= fun z => pure (Value.bool (!z))) _ _ s
        refine wpAny_bind (wpAny_contains_heap k.room (key_is I hk hx) q1 q4 (wpAny_pure ?_))
        refine ⟨.bl _, H, I.tok _, rfl, ?_⟩
        rcases withV_at (k := nk) q3 with ⟨z1, z2⟩ | ⟨v', u', b', z1, z2, _⟩ <;> rcases h3.find (k := nk) with ⟨y1, y2⟩ | ⟨v2, d2, y1, y2, _⟩
        · rw [z2]; rw [y2] at q; exact q
        · rw [z1] at y1; cases y1
        · rw [z1] at y1; cases y1
        · rw [z2]; rw [y2] at q; exact q
  | str z =>
    cases d with
    | str c =>
      simp only [inF] at hf
      split at hf
      · rename_i h1
        have hf := Option.some.inj hf
        subst hf
        cases hx.str_inv
        cases hy.str_inv
        exact notin_sign_str I rx ry h1 q
      · cases hf
    | _ => simp [inF] at hf
  | _ => simp [inF] at hf
theorem DB.in_ (k : Cok X C) {ma mb : OM} (ha : DO X C a ma) (hb : DO X C b mb) (hm : behindInMarks .In b = false) : DB X C (.Compare a [.In] [b] pos) (b2 inF ma mb) := DB.cmp (op_in2 k) b2_rInD2 ha hb hm
theorem DB.notIn (k : Cok X C) {ma mb : OM} (ha : DO X C a ma) (hb : DO X C b mb) (hm : behindInMarks .NotIn b = false) : DB X C (.Compare a [.NotIn] [b] pos) (b2 notInF ma mb) := DB.cmp (op_notIn2 k) b2_rInD2 ha hb hm
theorem DV.in_ (k : Cok X C) {ma mb : OM} (ha : DO X C a ma) (hb : DO X C b mb) (hm : behindInMarks .In b = false) : DV X C (.Compare a [.In] [b] pos) (oB (b2 inF ma mb)) := DV.cmp (op_in2 k) b2_rInD2 ha hb hm
theorem DV.notIn (k : Cok X C) {ma mb : OM} (ha : DO X C a ma) (hb : DO X C b mb) (hm : behindInMarks .NotIn b = false) : DV X C (.Compare a [.NotIn] [b] pos) (oB (b2 notInF ma mb)) := DV.cmp (op_notIn2 k) b2_rInD2 ha hb hm

/-! ### truth -/
def truF : D → Option Bool
  | .none => some false
  | .bool b => some b
  | .int i => some (i != 0)
  | .str x => if x.length ≤ 1000000 then some ((x.length : Int) != 0) else none
  | .list xs => some (!xs.isEmpty)
  | .tuple xs => some (!xs.isEmpty)
  | .dict _ => none
theorem truV_of {H : Hp} {F : Addr → Prop} {x : V} {d : D} {b : Bool} (hK : C.K = X.K) (h : Rp C.w C.K H F x d) (hf : truF d = some b) : TruV X.K x H b := by
  have emp : ∀ {xs : List V} {ds : List D}, RpA C.w C.K H F xs ds → (!ds.isEmpty) = !xs.isEmpty := fun r => by cases r <;> rfl
  cases d with
  | none => cases h; cases hf; rfl
  | bool _ => cases h; cases hf; rfl
  | int _ => cases h; cases hf; rfl
  | str x =>
    cases h
    simp only [truF] at hf
    split at hf
    · cases hf; exact ⟨by rw [sizeLine_eq]; omega, rfl⟩
    · cases hf
  | list ds =>
    cases h with
    | lst h1 h2 => cases hf; exact .inl ⟨_, hK ▸ h1.sq, emp h2⟩
  | tuple ds =>
    cases h with
    | tup h1 h2 => cases hf; exact .inr (.inl ⟨_, hK ▸ h1, emp h2⟩)
  | dict _ => cases hf
def bT (m : OM) : BM := fun ρ => eb (m ρ) fun d => lift (truF d)
theorem DB.tru (k : Cok X C) {m : OM} (h : DO X C e m) (he : ∀ whole, isTrue e X.env whole = (do let v ← whole; standAt e.pos; holding [v] (truthy v))) : DB X C e (bT m) :=
  PT.imp (pt_truth h he) fun σ H Q q => eb_O (m := m) (f := fun _ d => lift (truF d)) q rfl fun ρ F d s hy hx hr v H' F' g x => by
    obtain ⟨r, hr⟩ := hr
    cases hf : truF d with
    | none => simp [lift, hf] at hr
    | some b => exact ⟨b, truV_of k.K x hf, hy b (by simp [lift, hf, ok]) H' F' g⟩
def bNot (m : BM) : BM := fun ρ => eb (m ρ) fun b => ok (!b)
theorem DB.not {m : BM} (h : DB X C a m) : DB X C (.UnaryOp .Not a pos) (bNot m) :=
  PT.imp (pt_not h) fun σ H Q q => eb_B (m := m) (f := fun _ b => ok (!b)) q rfl fun ρ F b s hy hx hr H' F' g => hy (!b) rfl H' F' g
theorem DV.notT (k : Cok X C) {m : OM} (h : DO X C a m) : DV X C (.UnaryOp .Not a pos) (oB (bNot (bT m))) :=
  PE.imp (pe_notT h) fun σ H Q q => eb_O (m := m) (f := fun _ d => eb (lift (truF d)) fun b => ok (.bool (!b))) q (by
    funext ρ
    unfold oB bNot bT
    cases m ρ with
    | none => rfl
    | some s => cases s with
      | inr x => rfl
      | inl d => simp only [eb_inl]; cases truF d <;> rfl) fun ρ F d s hy hx hr v H' F' g x => by
    obtain ⟨r, hr⟩ := hr
    cases hf : truF d with
    | none => simp [hf] at hr
    | some b => exact ⟨b, truV_of k.K x hf, hy _ (by simp only [hf, lift_some, eb_ok]; rfl) _ H' F' g (.bl _)⟩
/-! and, or -/
def bAnd (m n : BM) : BM := fun ρ => eb (m ρ) fun b => if b = true then n ρ else ok false
def bOr (m n : BM) : BM := fun ρ => eb (m ρ) fun b => if b = true then ok true else n ρ
theorem DW.db {m : BM} (h : DW X C e m) : DB X C e m := PW.pt h
theorem DW.and1 {m : BM} (h : DB X C a m) : DW X C (.BoolOp .And [a] pos) m := pw_and1 h
theorem DW.or1 {m : BM} (h : DB X C a m) : DW X C (.BoolOp .Or [a] pos) m := pw_or1 h
theorem fork {mg : Str → Option Value} {m n : BM} {σ : L2.St} {H : Hp} {R : Bool → Hp → Prop} {F' : Addr → Prop} {ρ : Regs} (s : SR C H F' σ ρ) (hr : ∃ r, n ρ = some r) (hy : ∀ b, n ρ = some (.inl b) → ∀ H2 F2, Gr C σ ρ H F' H2 F2 → R b H2) (hx : ∀ x, n ρ = some (.inr x) → XWant C mg σ ρ H F' x) : tB C mg n σ H R := by
  obtain ⟨r, hr⟩ := hr
  refine ⟨ρ, F', r, s, hr, ?_⟩
  cases r with
  | inl b => exact hy b hr
  | inr x => exact hx x hr
theorem DW.and {rest : List Expr} {m n : BM} (ha : DB X C a m) (hb : DW X C (.BoolOp .And (b :: rest) pos) n) : DW X C (.BoolOp .And (a :: b :: rest) pos) (bAnd m n) :=
  PW.imp (pw_and ha hb) fun σ H Q q => eb_B (m := m) (f := fun ρ b => if b = true then n ρ else ok false) q rfl fun ρ F b s hy hx hr H' F' g => by
    cases b with
    | false => exact hy false rfl H' F' g
    | true =>
      rw [if_pos rfl]
      exact fork (mg := X.mg) (m := m) g.sr hr (fun b hb H2 F2 g2 => hy b hb H2 F2 (g.trans g2)) (fun x hn => (hx x hn).step g)
theorem DW.or {rest : List Expr} {m n : BM} (ha : DB X C a m) (hb : DW X C (.BoolOp .Or (b :: rest) pos) n) : DW X C (.BoolOp .Or (a :: b :: rest) pos) (bOr m n) :=
  PW.imp (pw_or ha hb) fun σ H Q q => eb_B (m := m) (f := fun ρ b => if b = true then ok true else n ρ) q rfl fun ρ F b s hy hx hr H' F' g => by
    cases b with
    | true => exact hy true rfl H' F' g
    | false =>
      rw [if_neg Bool.false_ne_true]
      exact fork (mg := X.mg) (m := m) g.sr hr (fun b hb H2 F2 g2 => hy b hb H2 F2 (g.trans g2)) (fun x hn => (hx x hn).step g)
/-- .. as values: the first one a bool -/
def oAnd (m n : OM) : OM := fun ρ => eb (m ρ) fun d => match d with
  | .bool b => if b = true then n ρ else ok (.bool false)
  | _ => none
def oOr (m n : OM) : OM := fun ρ => eb (m ρ) fun d => match d with
  | .bool b => if b = true then ok (.bool true) else n ρ
  | _ => none
theorem forkV {mg : Str → Option Value} {n : OM} {σ : L2.St} {H : Hp} {R : V → Hp → Prop} {F' : Addr → Prop} {ρ : Regs} (s : SR C H F' σ ρ) (hr : ∃ r, n ρ = some r) (hy : ∀ b, n ρ = some (.inl b) → ∀ v H2 F2, Gr C σ ρ H F' H2 F2 → Rp C.w C.K H2 F2 v b → R v H2) (hx : ∀ x, n ρ = some (.inr x) → XWant C mg σ ρ H F' x) : tV C mg n σ H R := by
  obtain ⟨r, hr⟩ := hr
  refine ⟨ρ, F', r, s, hr, ?_⟩
  cases r with
  | inl b => exact hy b hr
  | inr x => exact hx x hr
theorem forkE {mg : Str → Option Value} {n : EM} {σ : L2.St} {H : Hp} {R : V → Hp → Prop} {F' : Addr → Prop} {ρ : Regs} (s : SR C H F' σ ρ) (hr : ∃ r, n ρ = some r) (hy : ∀ b, n ρ = some (.inl b) → ∀ v H2 F2, Gr C σ ρ H F' H2 F2 → RvNew C H H2 F2 v b → R v H2) (hx : ∀ x, n ρ = some (.inr x) → XWant C mg σ ρ H F' x) : tE C mg n σ H R := by
  obtain ⟨r, hr⟩ := hr
  refine ⟨ρ, F', r, s, hr, ?_⟩
  cases r with
  | inl b => exact hy b hr
  | inr x => exact hx x hr
theorem DV.one {op} {m : OM} (h : DV X C a m) : DV X C (.BoolOp op [a] pos) m := pe_one h
theorem DV.and {rest : List Expr} {m n : OM} (ha : DO X C a m) (hb : DV X C (.BoolOp .And (b :: rest) pos) n) : DV X C (.BoolOp .And (a :: b :: rest) pos) (oAnd m n) :=
  PE.imp (pe_and ha hb) fun σ H Q q => eb_O (m := m) (f := fun ρ d => match d with
  | .bool b => if b = true then n ρ else ok (.bool false)
  | _ => none) q rfl fun ρ F d s hy hx hr v H' F' g x => by
    cases d with
    | bool b =>
      cases x.bool_inv
      refine ⟨b, rfl, ?_⟩
      cases b with
      | false => exact hy (.bool false) rfl _ H' F' g (.bl _)
      | true => exact forkV (mg := X.mg) g.sr hr (fun b hb v H2 F2 g2 => hy b hb v H2 F2 (g.trans g2)) (fun x hn => (hx x hn).step g)
    | _ => obtain ⟨r, hr⟩ := hr; cases hr
theorem DV.or {rest : List Expr} {m n : OM} (ha : DO X C a m) (hb : DV X C (.BoolOp .Or (b :: rest) pos) n) : DV X C (.BoolOp .Or (a :: b :: rest) pos) (oOr m n) :=
  PE.imp (pe_or ha hb) fun σ H Q q => eb_O (m := m) (f := fun ρ d => match d with
  | .bool b => if b = true then ok (.bool true) else n ρ
  | _ => none) q rfl fun ρ F d s hy hx hr v H' F' g x => by
    cases d with
    | bool b =>
      cases x.bool_inv
      refine ⟨b, rfl, ?_⟩
      cases b with
      | true => exact hy (.bool true) rfl _ H' F' g (.bl _)
      | false => exact forkV (mg := X.mg) g.sr hr (fun b hb v H2 F2 g2 => hy b hb v H2 F2 (g.trans g2)) (fun x hn => (hx x hn).step g)
    | _ => obtain ⟨r, hr⟩ := hr; cases hr
/-- a if t else b -/
def mIf {α : Type} (t : BM) (m n : Regs → ER α) : Regs → ER α := fun ρ => eb (t ρ) fun b => if b = true then m ρ else n ρ
theorem DV.ife {t : BM} {m n : OM} (ht : DB X C c t) (ha : DV X C a m) (hb : DV X C b n) : DV X C (.IfExp c a b pos) (mIf t m n) :=
  PE.imp (pe_ifExp ht ha hb) fun σ H Q q => eb_B (m := t) (f := fun ρ b => if b = true then m ρ else n ρ) q rfl fun ρ F b s hy hx hr H' F' g => by
    cases b with
    | true => exact forkV (mg := X.mg) g.sr hr (fun b hb v H2 F2 g2 => hy b hb v H2 F2 (g.trans g2)) (fun x hn => (hx x hn).step g)
    | false => exact forkV (mg := X.mg) g.sr hr (fun b hb v H2 F2 g2 => hy b hb v H2 F2 (g.trans g2)) (fun x hn => (hx x hn).step g)
theorem DE.ife {t : BM} {m n : EM} (ht : DB X C c t) (ha : DE X C a m) (hb : DE X C b n) : DE X C (.IfExp c a b pos) (mIf t m n) :=
  PE.imp (pe_ifExp ht ha hb) fun σ H Q q => eb_B (m := t) (f := fun ρ b => if b = true then m ρ else n ρ) q rfl fun ρ F b s hy hx hr H' F' g => by
    cases b with
    | true => exact forkE (mg := X.mg) g.sr hr (fun b hb v H2 F2 g2 x => hy b hb v H2 F2 (g.trans g2) (x.back g.le)) (fun x hn => (hx x hn).step g)
    | false => exact forkE (mg := X.mg) g.sr hr (fun b hb v H2 F2 g2 x => hy b hb v H2 F2 (g.trans g2) (x.back g.le)) (fun x hn => (hx x hn).step g)
/-! ### a <= b <= c -/
def bChain (f f' : D → D → Option Bool) (ma mb mc : OM) : BM := fun ρ => eb (ma ρ) fun x => eb (mb ρ) fun y => eb (lift (f x y)) fun b => if b = true then eb (mc ρ) fun z => lift (f' y z) else ok false
end
end TS
/-! T5: chains, items, slices, len, sorted, tuple(), list(), isinstance -/
namespace TS
open PySem PySem.Spec PyProof.Rows L2

section
variable {X : Cx} {C : Cc} {e a b c : Expr} {pos : Pos}
/-! ### a op b op' c -/
theorem tchain {mg : Str → Option Value} {f f' : D → D → Option Bool} {ma mb mc : OM} {r r' : R2} (h1 : B2Ok C r f) (h2 : B2Ok C r' f') {σ : L2.St} {H : Hp} {R : VK} {β : Type} {g : Bool → β} {Y : L2.St → Regs → Hp → (Addr → Prop) → β → Prop} {mm : Regs → ER β}
    (h : tM C mg mm Y σ H) (hmm : mm = fun ρ => eb (ma ρ) fun x => eb (mb ρ) fun y => eb (lift (f x y)) fun b => if b = true then eb (mc ρ) fun z => eb (lift (f' y z)) fun k => ok (g k) else ok (g false))
    (hz : ∀ ρ F b, SR C H F σ ρ → Y σ ρ H F (g b) → ∀ H' F', Gr C σ ρ H F H' F' → R (.bl b) H') :
    tChain r r' (tO C mg ma) (tO C mg mb) (tO C mg mc) σ H R :=
  eb_O (m := ma) (f := fun ρ x => eb (mb ρ) fun y => eb (lift (f x y)) fun b => if b = true then eb (mc ρ) fun z => eb (lift (f' y z)) fun k => ok (g k) else ok (g false)) h hmm fun ρ F d s hy hx hr v H' F' g1 x => by
    obtain ⟨q, hr⟩ := hr
    cases hb : mb ρ with
    | none => rw [hb] at hr; cases hr
    | some sb =>
      refine ⟨ρ, F', sb, g1.sr, hb, ?_⟩
      rw [hb] at hy hx hr
      cases sb with
      | inr z => exact (hx z rfl).step g1
      | inl e =>
        intro u H2 F2 g2 y
        cases hf : f d e with
        | none => simp [eb, lift, hf] at hr
        | some k =>
          simp only [eb_inl, hf, lift_some, eb_ok] at hy hx hr
          refine h1 g2.sr (g2.all x) y hf ⟨k, rfl, ?_⟩
          cases k with
          | false => exact hz ρ F false s (hy (g false) rfl) H2 F2 (g1.trans g2)
          | true =>
            simp only [if_true] at hy hx hr ⊢
            cases hc : mc ρ with
            | none => rw [hc] at hr; cases hr
            | some sc =>
              refine ⟨ρ, F2, sc, g2.sr, hc, ?_⟩
              rw [hc] at hy hx hr
              cases sc with
              | inr z => exact (hx z rfl).step (g1.trans g2)
              | inl w =>
                intro u3 H3 F3 g3 y3
                cases hf' : f' e w with
                | none => simp [eb, lift, hf'] at hr
                | some k => exact h2 g3.sr (g3.all y) y3 hf' (hz ρ F k s (hy (g k) (by simp [eb, lift, hf', ok])) H3 F3 ((g1.trans g2).trans g3))
theorem eb_id (x : ER Bool) : (eb x fun k => ok k) = x := by
  cases x with
  | none => rfl
  | some s => cases s <;> rfl
theorem DB.chain {op op' : CmpOp} {r r' : R2} {f f' : D → D → Option Bool} {ma mb mc : OM} (ho : OpR X (compareOp op) r) (ho' : OpR X (compareOp op') r') (h1 : B2Ok C r f) (h2 : B2Ok C r' f') (ha : DO X C a ma) (hb : DO X C b mb) (hc : DO X C c mc)
    (hm : lastMarks [op, op'] [b, c] = false) : DB X C (.Compare a [op, op'] [b, c] pos) (bChain f f' ma mb mc) :=
  PT.imp (pt_chain ho ho' ha hb hc hm) fun σ H Q q => tchain (g := fun b => b) h1 h2 q (by unfold bChain; simp only [eb_id]) fun ρ F b s hy H' F' g => ⟨b, rfl, hy H' F' g⟩
theorem DV.chain {op op' : CmpOp} {r r' : R2} {f f' : D → D → Option Bool} {ma mb mc : OM} (ho : OpR X (compareOp op) r) (ho' : OpR X (compareOp op') r') (h1 : B2Ok C r f) (h2 : B2Ok C r' f') (ha : DO X C a ma) (hb : DO X C b mb) (hc : DO X C c mc)
    (hm : lastMarks [op, op'] [b, c] = false) : DV X C (.Compare a [op, op'] [b, c] pos) (oB (bChain f f' ma mb mc)) :=
  PE.imp (pe_chain ho ho' ha hb hc hm) fun σ H Q q => tchain (g := fun b => PyData.bool b) h1 h2 q (by
    funext ρ
    unfold oB bChain
    cases ma ρ with
    | none => rfl
    | some s => cases s with
      | inr x => rfl
      | inl x =>
        simp only [eb_inl]
        cases mb ρ with
        | none => rfl
        | some s => cases s with
          | inr y => rfl
          | inl y =>
            simp only [eb_inl]
            cases f x y with
            | none => rfl
            | some k =>
              simp only [lift_some, eb_ok]
              cases k with
              | false => rfl
              | true =>
                simp only [if_true]
                cases mc ρ with
                | none => rfl
                | some s => cases s with
                  | inr z => rfl
                  | inl z => simp only [eb_inl]) fun ρ F b s hy H' F' g => hy _ H' F' g (.bl b)
theorem DB.leLe {ma mb mc : OM} (ha : DO X C a ma) (hb : DO X C b mb) (hc : DO X C c mc) (hm : lastMarks [.LtE, .LtE] [b, c] = false) : DB X C (.Compare a [.LtE, .LtE] [b, c] pos) (bChain (ltF pLe) (ltF pLe) ma mb mc) := DB.chain op_le op_le r2_lt r2_lt ha hb hc hm
theorem DV.leLe {ma mb mc : OM} (ha : DO X C a ma) (hb : DO X C b mb) (hc : DO X C c mc) (hm : lastMarks [.LtE, .LtE] [b, c] = false) : DV X C (.Compare a [.LtE, .LtE] [b, c] pos) (oB (bChain (ltF pLe) (ltF pLe) ma mb mc)) := DV.chain op_le op_le r2_lt r2_lt ha hb hc hm

/-! ### a[i] -/
def idxF (d e : D) : Option D := match d with
  | .list xs => match e with
    | .int i => atI xs i
    | _ => none
  | .tuple xs => match e with
    | .int i => atI xs i
    | _ => none
  | .str z => match e with
    | .int i => if z.length ≤ 1000000 then (atI z.cps.toList i).map fun c => .str ⟨#[c]⟩ else none
    | _ => none
  | .dict kvs => match kOf e with
    | some k => dFind kvs k
    | none => none
  | _ => none
def o2 (f : D → D → Option D) (ma mb : OM) : OM := fun ρ => eb (ma ρ) fun x => eb (mb ρ) fun y => lift (f x y)
def rIx2 (C : Cc) : R2 := fun x y H Q => ∃ (Fm : Addr → Prop) (d e r : D), Rp C.w C.K H Fm x d ∧ Rp C.w C.K H All y e ∧ idxF d e = some r ∧ ∀ v, Rp C.w C.K H Fm v r → Q v H
theorem atI_rp {w : World} {K : Frg} {H : Hp} {F : Addr → Prop} {vs : List V} {ds : List D} {i : Int} {d : D} (h : RpA w K H F vs ds) (e : atI ds i = some d) : ∃ v, atI vs i = some v ∧ Rp w K H F v d := by
  unfold atI at e ⊢
  rw [h.length]
  cases hj : ixN ds.length i with
  | none => rw [hj] at e; cases e
  | some j =>
    rw [hj] at e
    exact h.get e
theorem ix_all (k : Cok X C) : IxR X (rIx2 C) := by
  intro value slice pins s σ H x y v u Q I rx ry h hs
  obtain ⟨Fm, d, e, r, hx, hy, hf, q⟩ := h
  cases d with
  | list xs =>
    cases e with
    | int i =>
      cases hx with
      | lst h1 h2 =>
        obtain ⟨z, e1, e2⟩ := atI_rp h2 hf
        cases hy.int_inv
        exact ix_list value slice pins s σ H _ _ v u Q I rx ry ⟨_, _, i, z, rfl, rfl, k.K ▸ h1.sq, e1, q z e2⟩ hs
    | _ => simp [idxF] at hf
  | tuple xs =>
    cases e with
    | int i =>
      cases hx with
      | tup h1 h2 =>
        obtain ⟨z, e1, e2⟩ := atI_rp h2 hf
        cases hy.int_inv
        exact ix_tup value slice pins s σ H _ _ v u Q I rx ry ⟨_, _, i, z, rfl, rfl, k.K ▸ h1, e1, q z e2⟩ hs
    | _ => simp [idxF] at hf
  | str z =>
    cases e with
    | int i =>
      cases hx.str_inv
      cases hy.int_inv
      simp only [idxF] at hf
      split at hf
      · rename_i hl
        obtain ⟨c, e1, e2⟩ := Option.map_eq_some_iff.mp hf
        subst e2
        exact ix_str value slice pins s σ H _ _ v u Q I rx ry ⟨z, i, c, rfl, rfl, by rw [sizeLine_eq]; omega, e1, q _ (.str _)⟩ hs
      · cases hf
    | _ => simp [idxF] at hf
  | dict kvs =>
    simp only [idxF] at hf
    cases hk : kOf e with
    | none => rw [hk] at hf; cases hf
    | some nk =>
      rw [hk] at hf
      replace hf : dFind kvs nk = some r := hf
      obtain ⟨bk, rfl⟩ := hy.key_ref hk
      rw [k.w, k.K] at hy
      cases hx with
      | dic h1 h2 h3 =>
        cases rx
        cases ry
        rw [k.w] at h1
        rw [k.w, k.K] at h3
        obtain ⟨q1, q2, us, q3, q4⟩ := dic_of I h1 h3
        rcases h3.find (k := nk) with ⟨y1, y2⟩ | ⟨v2, d2, y1, y2, y3⟩
        · rw [hf] at y2; cases y2
        · rw [hf] at y2
          cases y2
          rcases withV_at (k := nk) q3 with ⟨z1, z2⟩ | ⟨v', u', b', z1, z2, z3⟩
          · rw [z1] at y1; cases y1
          · rw [z1] at y1
            cases y1
            exact tail_any q4.typeIs PySem.F.slot_dict_getitem.lookup (wpAny_getItem_heap k.room (key_is I hk hy) q4 z2 ⟨v2, H, I.tok _, z3, q v2 (by rw [k.w, k.K]; exact y3)⟩) hs
  | _ => simp [idxF] at hf
theorem DO.idx (k : Cok X C) {ma mb : OM} (ha : DO X C a ma) (hb : DO X C b mb) (hs : PlainIx b) : DO X C (.Subscript a b pos) (o2 idxF ma mb) :=
  PE.imp (pe_ix (ix_all k) ha hb hs) fun σ H Q q => two_ops (f := idxF) q rfl fun ρ F d e al s hf hy x y H' F' g hx hy' => ⟨All, d, e, al, hx, hy', hf, fun v hv => hy v H' F' g hv⟩
/-- the first operand let go (lists of lists) -/
theorem two_opsV {α : Type} {mg : Str → Option Value} {ma mb : OM} {f : D → D → Option α} {Y : L2.St → Regs → Hp → (Addr → Prop) → α → Prop} {mm : Regs → ER α} {σ : L2.St} {H : Hp} {R : V → V → Hp → Prop}
    (h : tM C mg mm Y σ H) (hmm : mm = fun ρ => eb (ma ρ) fun x => eb (mb ρ) fun y => lift (f x y))
    (hz : ∀ ρ F d e al, SR C H F σ ρ → f d e = some al → Y σ ρ H F al → ∀ x y H' F', Gr C σ ρ H F H' F' → Rp C.w C.K H' F' x d → Rp C.w C.K H' F' y e → R x y H') :
    tV C mg ma σ H fun x H1 => tV C mg mb σ H1 fun y H2 => R x y H2 :=
  eb_V (m := ma) (f := fun ρ x => eb (mb ρ) fun y => lift (f x y)) h hmm fun ρ F d s hy hx hr v H' F' g x => by
    obtain ⟨r, hr⟩ := hr
    cases hb : mb ρ with
    | none => rw [hb] at hr; cases hr
    | some sb =>
      refine ⟨ρ, F', sb, g.sr, hb, ?_⟩
      rw [hb] at hy hx hr
      cases sb with
      | inr z => exact (hx z rfl).step g
      | inl e =>
        cases hf : f d e with
        | none => simp [eb, lift, hf] at hr
        | some al => exact fun u H2 F2 g2 y => hz ρ F d e al s hf (hy al (by simp [eb, lift, hf])) v u H2 F2 (g.trans g2) (g2.rp x) y
theorem DV.idx (k : Cok X C) {ma mb : OM} (ha : DV X C a ma) (hb : DV X C b mb) (hs : PlainIx b) : DV X C (.Subscript a b pos) (o2 idxF ma mb) :=
  PE.imp (pe_ix (ix_all k) ha hb hs) fun σ H Q q => two_opsV (f := idxF) q rfl fun ρ F d e al s hf hy x y H' F' g hx hy' => ⟨F', d, e, al, hx, hy'.all, hf, fun v hv => hy v H' F' g hv⟩

/-! ### a[lo:hi] -/
abbrev PM := Regs → ER (Option Int)
def tP (C : Cc) (mg : Str → Option Value) (m : PM) : TO := fun σ H Q => tM C mg m (fun σ ρ H F i => ∀ H' F', Gr C σ ρ H F H' F' → Q i H') σ H
def DP (X : Cx) (C : Cc) (e : Option Expr) (m : PM) : Prop := PO X e (tP C X.mg m)
theorem PO.imp {X : Cx} {e : Option Expr} {t t' : TO} (h : PO X e t) (i : ∀ σ H Q, t' σ H Q → t σ H Q) : PO X e t' := ⟨fun pins s σ H Q I q => h.run pins s σ H Q I (i σ H Q q)⟩
def pNo : PM := fun _ => ok none
def pSome (m : OM) : PM := fun ρ => eb (m ρ) fun d => match d with
  | .int i => ok (some i)
  | _ => none
theorem DP.no : DP X C none pNo := PO.imp po_none fun σ H Q ⟨ρ, F, r, s, hm, q⟩ => by
  cases hm
  exact q H F (.refl s)
theorem DP.yes {m : OM} (h : DO X C e m) : DP X C (some e) (pSome m) := PO.imp (po_some h) fun σ H Q q => eb_O (m := m) (f := fun _ d => match d with
  | .int i => ok (some i)
  | _ => none) q rfl fun ρ F d s hy hx hr v H' F' g x => by
    obtain ⟨r, hr⟩ := hr
    split at hr
    · cases x.int_inv
      exact ⟨_, rfl, hy _ rfl H' F' g⟩
    · cases hr
def cutD {α : Type} (xs : List α) (lo hi : Option Int) : List α := (xs.drop (HT.sIx xs.length 0 lo)).take (HT.sIx xs.length xs.length hi - HT.sIx xs.length 0 lo)
def sliceF (d : D) (lo hi : Option Int) : Option RV := match d with
  | .list xs => if immA xs = true then some (.ownL (cutD xs lo hi)) else none
  | .tuple xs => if immA xs = true then some (.val (.tuple (cutD xs lo hi))) else none
  | _ => none
def eSlc (ma : OM) (lo hi : PM) : EM := fun ρ => eb (ma ρ) fun d => eb (lo ρ) fun l => eb (hi ρ) fun h => lift (sliceF d l h)
theorem immA_cut {xs : List D} {lo hi : Option Int} (h : immA xs = true) : immA (cutD xs lo hi) = true := by
  have dr : ∀ (n : Nat) (xs : List D), immA xs = true → immA (xs.drop n) = true := by
    intro n
    induction n with
    | zero => intro xs h; exact h
    | succ n ih => intro xs h; cases xs with
      | nil => exact h
      | cons x xs => exact ih xs (by simp [immA] at h; exact h.2)
  have tk : ∀ (n : Nat) (xs : List D), immA xs = true → immA (xs.take n) = true := by
    intro n
    induction n with
    | zero => intro xs h; rfl
    | succ n ih => intro xs h; cases xs with
      | nil => exact h
      | cons x xs => simp [immA] at h; simp [immA, h.1, ih xs h.2]
  exact tk _ _ (dr _ _ h)
theorem cut_rp {w : World} {K : Frg} {H : Hp} {F : Addr → Prop} {vs : List V} {ds : List D} {lo hi : Option Int} (h : RpA w K H F vs ds) : RpA w K H F (cutV vs lo hi) (cutD ds lo hi) := by
  unfold cutV cutD
  rw [h.length]
  exact (h.drop _).take _
def rSl2 (K : Frg) : V → Option Int → Option Int → Hp → VK → Prop := fun x lo hi H Q => rSlL K x lo hi H Q ∨ rSlA K x lo hi H Q
theorem DE.slc (k : Cok X C) {ma : OM} {lo hi : Option Expr} {ml mh : PM} {p2 : Pos} (ha : DO X C a ma) (hl : DP X C lo ml) (hh : DP X C hi mh) : DE X C (.Subscript a (.Slice lo hi none p2) pos) (eSlc ma ml mh) :=
  PE.imp (pe_slice (SlR.or sl_list sl_tupA) ha hl hh) fun σ H Q q => eb_O (m := ma) (f := fun ρ d => eb (ml ρ) fun l => eb (mh ρ) fun h => lift (sliceF d l h)) q rfl fun ρ F d s hy hx hr v H' F' g x => by
    obtain ⟨r, hr⟩ := hr
    cases hb : ml ρ with
    | none => rw [hb] at hr; cases hr
    | some sb =>
      refine ⟨ρ, F', sb, g.sr, hb, ?_⟩
      rw [hb] at hy hx hr
      cases sb with
      | inr z => exact (hx z rfl).step g
      | inl l =>
        intro H2 F2 g2
        simp only [eb_inl] at hy hx hr
        cases hc : mh ρ with
        | none => rw [hc] at hr; cases hr
        | some sc =>
          refine ⟨ρ, F2, sc, g2.sr, hc, ?_⟩
          rw [hc] at hy hx hr
          cases sc with
          | inr z => exact (hx z rfl).step (g.trans g2)
          | inl h =>
            intro H3 F3 g3
            simp only [eb_inl] at hy hx hr
            have x3 := g3.all (g2.all x)
            have gg := (g.trans g2).trans g3
            cases d with
            | list xs =>
              cases x3 with
              | lst h1 h2 =>
                rename_i a1 vs
                by_cases hi : immA xs = true
                · simp only [sliceF, if_pos hi, lift_some] at hy
                  refine .inl ⟨_, _, rfl, k.K ▸ h1.sq, fun p hp => ?_⟩
                  have hp0 : H p = none := by
                    cases e : H p with
                    | none => rfl
                    | some o => have := gg.le _ _ e; rw [hp] at this; cases this
                  have gn := gg.trans (Gr.new (o := .lst (cutV vs l h)) gg.sr hp)
                  refine hy _ rfl _ _ F3 gn ⟨⟨p, _, rfl, upd_same, gg.sr.freshF hp, gg.sr.fresh0 hp, ?_⟩, fun _ => ⟨p, rfl, hp0⟩⟩
                  exact RpA.imm _ _ (immA_cut hi) (RpA.mono (Le.new hp).keep (fun _ z => z) _ _ (cut_rp h2))
                · simp [sliceF, hi] at hr
            | tuple xs =>
              cases x3 with
              | tup h1 h2 =>
                rename_i a1 vs
                by_cases hi : immA xs = true
                · simp only [sliceF, if_pos hi, lift_some] at hy
                  refine .inr ⟨_, _, rfl, k.K ▸ h1, fun hw => ?_, fun hw p hp => ?_⟩
                  · have e : cutD xs l h = xs := by
                      unfold cutD
                      rw [← h2.length, hw.1, hw.2]
                      simp [h2.length]
                    refine hy _ rfl _ _ F3 gg (.val ?_)
                    rw [e]
                    exact .tup h1 (RpA.imm _ _ hi h2)
                  · have gn := gg.trans (Gr.new (o := .tup (cutV vs l h)) gg.sr hp)
                    refine hy _ rfl _ _ F3 gn (.val (.tup (SqT.of upd_same) ?_))
                    exact RpA.imm _ _ (immA_cut hi) (RpA.mono (Le.new hp).keep (fun _ z => z) _ _ (cut_rp h2))
                · simp [sliceF, hi] at hr
            | _ => simp [sliceF] at hr
end
end TS
/-! T6: built-ins of one argument list -/
namespace TS
open PySem PySem.Spec PyProof.Rows L2

section
variable {X : Cx} {C : Cc} {e a b c : Expr} {pos : Pos}
/-- f(..) of a built-in: what it gives -/
def eL (f : List D → Option RV) (l : LM) : EM := fun ρ => eb (l ρ) fun ds => lift (f ds)
def CROk (C : Cc) (r : List V → Hp → VK → Prop) (f : List D → Option RV) : Prop := ∀ {σ : L2.St} {ρ : Regs} {H : Hp} {F : Addr → Prop} {vs : List V} {ds : List D} {rv : RV} {Q : VK}, SR C H F σ ρ → RpA C.w C.K H All vs ds → f ds = some rv →
  (∀ v H' F', Gr C σ ρ H F H' F' → RvNew C H H' F' v rv → Q v H') → r vs H Q
theorem tL_use {mg : Str → Option Value} {l : LM} {f : List D → Option RV} {r : List V → Hp → VK → Prop} (hr : CROk C r f) {σ : L2.St} {H : Hp} {Q : VK} (q : tE C mg (eL f l) σ H Q) : tL C mg l σ H fun vs H1 => r vs H1 Q :=
  eb_L (m := l) (f := fun _ ds => lift (f ds)) q rfl fun ρ F ds s hy hx hr' vs H' F' g x => by
    obtain ⟨z, hz⟩ := hr'
    cases hf : f ds with
    | none => simp [lift, hf] at hz
    | some rv => exact hr g.sr x hf fun v H2 F2 g2 hv => hy rv (by simp [lift, hf, ok]) v H2 F2 (g.trans g2) (hv.back g.le)
theorem DE.callB {x : Str} {p : Pos} {es : List Expr} {id : String} {r : List V → Hp → VK → Prop} {f : List D → Option RV} {l : LM} (hc : CallR X (.builtin id) r) (hr : CROk C r f) (hg : Gl X x) (hm : X.mg x = none) (hv : bootBuiltins x = some (.builtin id)) (ha : DL X C (e :: es) l)
    (hn : x ≠ "__name__") (hdb : (x == ("__debug__" : Str)) = false) (he : starEach (e :: es) X.env = (false, eval e X.env) :: starEach es X.env) (hpl : (backTo pos (starEach es X.env)).any (·.1) = false) : DE X C (.Call (.Name x p) (e :: es) [] pos) (eL f l) :=
  PE.imp (pe_callB hc hg hm hv ha hn hdb he hpl) fun σ H Q q => tL_use hr q
theorem DE.callT {x : Str} {p : Pos} {es : List Expr} {T : String} {r : List V → Hp → VK → Prop} {f : List D → Option RV} {l : LM} (hc : CallR X (.type T) r) (hr : CROk C r f) (hg : Gl X x) (hm : X.mg x = none) (hv : bootBuiltins x = some (.type T)) (ha : DL X C (e :: es) l)
    (hn : x ≠ "__name__") (hdb : (x == ("__debug__" : Str)) = false) (he : starEach (e :: es) X.env = (false, eval e X.env) :: starEach es X.env) (hpl : (backTo pos (starEach es X.env)).any (·.1) = false) : DE X C (.Call (.Name x p) (e :: es) [] pos) (eL f l) :=
  PE.imp (pe_callTy hc hg hm hv ha hn hdb he hpl) fun σ H Q q => tL_use hr q
theorem RpA.one {w : World} {K : Frg} {H : Hp} {F : Addr → Prop} {vs : List V} {d : D} (h : RpA w K H F vs [d]) : ∃ v, vs = [v] ∧ Rp w K H F v d := by
  cases h with
  | cons h1 h2 => cases h2; exact ⟨_, rfl, h1⟩
/-! ### len -/
def lenF : List D → Option RV
  | [.list xs] => some (.val (.int xs.length))
  | [.tuple xs] => some (.val (.int xs.length))
  | [.str x] => if x.length ≤ 1000000 then some (.val (.int x.length)) else none
  | [.dict kvs] => some (.val (.int kvs.length))
  | _ => none
/-- len of a dict of ours too -/
def rLenA (w : World) (K : Frg) : List V → Hp → VK → Prop := fun xs H Q => (∃ x n, xs = [x] ∧ LenV K x H n ∧ Q (.int n) H) ∨ ∃ a es ep F kvs, xs = [.ref a] ∧ H a = some (dicO w a es ep) ∧ RpK w K H F es kvs ∧ Q (.int ((es.length : Nat) : Int)) H
theorem call_lenA : CallR X (.builtin "len") (rLenA X.w X.K) := by
  intro pins s σ H xs us Q I r h
  rcases h with h | ⟨a, es, ep, F, kvs, rfl, hH, hk, q⟩
  · exact call_len pins s σ H xs us Q I r h
  · obtain ⟨u, rfl, rx⟩ := vals1 r
    obtain rfl : u = .ref a := rx
    obtain ⟨h1, h2, ws, hv, hm⟩ := dic_of I hH hk
    have hl : es.length = (withV es ws).length := by
      have := congrArg List.length (withV_keys hv)
      simpa using this.symm
    refine call_len_dictH h1 hm (by rw [← hl]; rw [sizeLine_eq] at h2; omega) ?_
    rw [← hl]
    exact ⟨.int ((es.length : Nat) : Int), H, I.tok _, ⟨_, rfl⟩, q⟩
theorem cr_len (hK : C.K = X.K) (hw : C.w = X.w) : CROk C (rLenA X.w X.K) lenF := by
  intro σ ρ H F vs ds rv Q s hx hf q
  unfold lenF at hf
  split at hf
  · cases hf
    obtain ⟨v, rfl, h⟩ := hx.one
    cases h with
    | lst h1 h2 => exact .inl ⟨_, _, rfl, .inl ⟨_, hK ▸ h1.sq, rfl⟩, by rw [h2.length]; exact q _ H F (.refl s) (.val (.int _))⟩
  · cases hf
    obtain ⟨v, rfl, h⟩ := hx.one
    cases h with
    | tup h1 h2 => exact .inl ⟨_, _, rfl, .inr ⟨_, hK ▸ h1, rfl⟩, by rw [h2.length]; exact q _ H F (.refl s) (.val (.int _))⟩
  · split at hf
    · cases hf
      obtain ⟨v, rfl, h⟩ := hx.one
      cases h.str_inv
      exact .inl ⟨_, _, rfl, ⟨by rw [sizeLine_eq]; omega, rfl⟩, q _ H F (.refl s) (.val (.int _))⟩
    · cases hf
  · cases hf
    obtain ⟨v, rfl, h⟩ := hx.one
    cases h with
    | dic h1 h2 h3 =>
      rw [← hw, ← hK]
      exact .inr ⟨_, _, _, _, _, rfl, h1, h3, by rw [h3.length]; exact q _ H F (.refl s) (.val (.int _))⟩
  · cases hf
/-! ### what is walked at once: a list's, a tuple's items, a dict's keys -/
def seqF : D → Option (List D)
  | .list xs => some xs
  | .tuple xs => some xs
  | .dict kvs => some (kvs.map (·.1))
  | _ => none
theorem keysV {w : World} {K : Frg} {H : Hp} {F : Addr → Prop} : ∀ {es : List Ent} {kvs : List (D × D)}, RpK w K H F es kvs → RpA w K H F (es.map fun e => V.ref e.2.1) (kvs.map (·.1))
  | _, _, .nil => .nil
  | _, _, .cons _ _ _ h4 _ h6 => .cons h4 (keysV h6)
theorem withV_refs : ∀ {es : List Ent} {us : List Value}, Vals (es.map (·.2.2)) us → Vals (es.map fun e => V.ref e.2.1) ((withV es us).map fun x => Value.ref x.2.1)
  | [], _, h => by cases h; exact .nil
  | e :: es, _, h => by
    cases h with
    | cons h1 h2 => exact .cons rfl (withV_refs h2)
theorem gather {pins : List (Addr × Obj)} {σ : L2.St} {H : Hp} {s : Shared} {F : Addr → Prop} {A : Around} {E : Value → Shared → Prop} (k : Cok X C) (hh : A.handled = none) (I : L2.Inv X pins σ H s) {d : D} {x : V} {u : Value} {ds : List D} (rx : RelV x u) (hx : Rp C.w C.K H F x d) (hf : seqF d = some ds) (hl : ds.length ≤ 1000000) {Q : List Value → Shared → Prop}
    (h : ∀ h' tk us vs, (∀ b o, s.heap.get? b = some o → h'.get? b = some o) → Vals vs us → RpA C.w C.K H F vs ds → Q us { s with heap := h', toks := tk }) : wpAny (model X.prog X.w) A (collect u) Q E s := by
  cases d with
  | list xs =>
    cases hf
    cases hx with
    | lst h1 h2 =>
      cases rx
      obtain ⟨its, r, ⟨o, n, ho, hc, hd, hdt⟩, hz⟩ := I.list (k.K ▸ h1.sq)
      exact wpAny_collect_seq _ (.inl rfl) ho hc hdt (fun h' hk => h h' s.toks _ _ hk (by simpa using r) h2) (by rw [List.size_toArray, ← r.length]; exact hz)
  | tuple xs =>
    cases hf
    cases hx with
    | tup h1 h2 =>
      cases rx
      obtain ⟨its, r, ⟨o, ho, hc, n, hdt⟩, hz⟩ := I.tuple (k.K ▸ h1)
      exact wpAny_collect_seq _ (.inr rfl) ho hc hdt (fun h' hk => h h' s.toks _ _ hk (by simpa using r) h2) (by rw [List.size_toArray, ← r.length]; exact hz)
  | dict kvs =>
    cases hf
    cases hx with
    | dic h1 h2 h3 =>
      cases rx
      rw [k.w] at h1
      have h3' := h3
      rw [k.w, k.K] at h3'
      obtain ⟨q1, q2, us, q3, q4⟩ := dic_of I h1 h3'
      rename_i a1 es1 ep1
      obtain ⟨des, ep, hr, hs, hat⟩ := q4.raw
      refine PySem.W.kdu_collect (KdlSrc.rawDict q1) hh hr (by rw [hs, withV_length q3]; exact q2) fun h' tk acc hk hi => ?_
      have e : acc.toList = (withV es1 us).map fun x => Value.ref x.2.1 := by
        refine List.ext_getElem? fun i => ?_
        rw [Array.getElem?_toList]
        by_cases hlt : i < acc.size
        · have hg := Array.getElem?_eq_getElem hlt
          obtain ⟨hi2, ev⟩ := hi.2 i _ hg
          obtain ⟨y, hy, e1, _⟩ := hat i hi2
          rw [hg, List.getElem?_map, hy, ev, e1]
          rfl
        · have h1 : acc.size ≤ i := Nat.le_of_not_lt hlt
          rw [Array.getElem?_eq_none h1, List.getElem?_eq_none]
          rw [List.length_map, ← hs, ← hi.1]
          exact h1
      exact h h' tk _ _ hk (by rw [e]; exact withV_refs q3) (keysV h3)
  | _ => cases hf
/-! ### sorted -/
def tupNE : D → Bool
  | .tuple (_ :: _) => true
  | _ => false
def plainKey : D → Bool
  | .none => false
  | .tuple _ => false
  | _ => true
def sortOk (ds : List D) : Bool := immA ds && (ds.all fun a => ds.all fun b => W.alike a b) && (ds.all tupNE || ds.all plainKey) && (ds.all fun d => decide (d.depth ≤ 60)) && decide (ds.length ≤ 1000000) && ds.all fun d => d.canLay0
/-! a sort that computes -/
def mgF {α : Type} (le : α → α → Bool) : Nat → List α → List α → List α
  | 0, xs, ys => xs ++ ys
  | _ + 1, [], ys => ys
  | _ + 1, x :: xs, [] => x :: xs
  | n + 1, x :: xs, y :: ys => if le x y = true then x :: mgF le n xs (y :: ys) else y :: mgF le n (x :: xs) ys
theorem mgF_eq {α : Type} {le : α → α → Bool} : ∀ {n : Nat} {xs ys : List α}, xs.length + ys.length ≤ n → mgF le n xs ys = xs.merge ys le
  | 0, [], [], _ => by rw [List.nil_merge]; rfl
  | 0, [], _ :: _, h => by simp at h
  | 0, _ :: _, _, h => by simp at h
  | _ + 1, [], ys, _ => by rw [List.nil_merge]; cases ys <;> rfl
  | _ + 1, x :: xs, [], _ => by rw [List.merge_right]; rfl
  | n + 1, x :: xs, y :: ys, h => by
    rw [List.cons_merge_cons, mgF, mgF_eq (n := n) (by simp at h ⊢; omega), mgF_eq (n := n) (by simp at h ⊢; omega)]
def msF {α : Type} (le : α → α → Bool) : Nat → List α → List α
  | 0, xs => xs
  | _ + 1, [] => []
  | _ + 1, [a] => [a]
  | n + 1, a :: b :: xs => mgF le (xs.length + 2) (msF le n ((a :: b :: xs).take ((xs.length + 3) / 2))) (msF le n ((a :: b :: xs).drop ((xs.length + 3) / 2)))
theorem msF_eq {α : Type} {le : α → α → Bool} : ∀ {n : Nat} {xs : List α}, xs.length ≤ n → msF le n xs = xs.mergeSort le
  | 0, [], _ => by simp [msF]
  | 0, _ :: _, h => by simp at h
  | _ + 1, [], _ => by simp [msF]
  | _ + 1, [a], _ => by simp [msF]
  | n + 1, a :: b :: xs, h => by
    have hl : (a :: b :: xs).length = xs.length + 2 := rfl
    rw [List.mergeSort.eq_3, msF, List.MergeSort.Internal.splitInTwo_fst, List.MergeSort.Internal.splitInTwo_snd]
    simp only [hl]
    rw [msF_eq (n := n) (by rw [List.length_take, hl]; rw [hl] at h; omega), msF_eq (n := n) (by rw [List.length_drop, hl]; rw [hl] at h; omega)]
    rw [mgF_eq (by rw [List.length_mergeSort, List.length_mergeSort, List.length_take, List.length_drop, hl]; omega)]
def sortD (ds : List D) : List D := msF (W.dataLe false id) ds.length ds
theorem sortD_ms (ds : List D) : sortD ds = ds.mergeSort (W.dataLe false id) := msF_eq (Nat.le_refl _)
def sortedF : List D → Option RV
  | [d] => match seqF d with
    | some ds => if sortOk ds = true then some (.ownL (sortD ds)) else none
    | none => none
  | _ => none
def rSortD (C : Cc) : List V → Hp → VK → Prop := fun vs H Q => ∃ x d ds, vs = [x] ∧ Rp C.w C.K H All x d ∧ seqF d = some ds ∧ sortOk ds = true ∧ ∀ p ys, H p = none → RpA C.w C.K H All ys (sortD ds) → Q (.ref p) (upd H p (.lst ys))
theorem immA_all : ∀ {ds : List D}, immA ds = true → ∀ d ∈ ds, imm d = true
  | [], _, _, h => by cases h
  | x :: xs, i, d, h => by
    simp only [immA, Bool.and_eq_true] at i
    rcases List.mem_cons.mp h with e | h
    · subst e; exact i.1
    · exact immA_all i.2 d h
theorem immA_of {ds : List D} (h : ∀ d ∈ ds, imm d = true) : immA ds = true := by
  induction ds with
  | nil => rfl
  | cons x xs ih => simp only [immA, Bool.and_eq_true]; exact ⟨h x List.mem_cons_self, ih fun d hd => h d (List.mem_cons_of_mem _ hd)⟩
theorem RpA.zipped {w : World} {K : Frg} {H : Hp} {F : Addr → Prop} : ∀ {vs : List V} {ds : List D}, RpA w K H F vs ds → ∀ p ∈ vs.zip ds, Rp w K H F p.1 p.2
  | _, _, .nil, p, h => by cases h
  | _, _, .cons h1 h2, p, h => by
    rcases List.mem_cons.mp h with e | h
    · subst e; exact h1
    · exact RpA.zipped h2 p h
theorem RpA.of_zip {w : World} {K : Frg} {H : Hp} {F : Addr → Prop} : ∀ {ps : List (V × D)}, (∀ p ∈ ps, Rp w K H F p.1 p.2) → RpA w K H F (ps.map (·.1)) (ps.map (·.2))
  | [], _ => .nil
  | p :: ps, h => .cons (h p List.mem_cons_self) (RpA.of_zip fun q hq => h q (List.mem_cons_of_mem _ hq))
theorem each_zip {us : List Value} {vs : List V} {ds : List D} (r : Vals vs us) (hl : vs.length = ds.length) : W.EachIs (fun u (p : V × D) => RelV p.1 u) us (vs.zip ds) := by
  induction r generalizing ds with
  | nil => cases ds with
    | nil => exact .nil
    | cons _ _ => cases hl
  | cons h1 h2 ih => cases ds with
    | nil => cases hl
    | cons d ds => exact .cons h1 (ih (by simpa using hl))
theorem vals_each {us : List Value} : ∀ {ps : List (V × D)}, W.EachIs (fun u (p : V × D) => RelV p.1 u) us ps → Vals (ps.map (·.1)) us := by
  intro ps h
  induction h with
  | nil => exact .nil
  | cons h1 h2 ih => exact .cons h1 ih
theorem sort_reads (k : Cok X C) {pins : List (Addr × Obj)} {σ : L2.St} {H : Hp} {s : Shared} (I : L2.Inv X pins σ H s) : ∀ {us : List Value} {vs : List V} {ds : List D}, Vals vs us → RpA C.w C.K H All vs ds → (∀ d ∈ ds, d.canLay0 = true) →
    W.EachIs (fun u (p : V × D) => ∃ as, Reads s.heap u p.2 as) us (vs.zip ds)
  | _, _, _, .nil, .nil, _ => .nil
  | _, _, _, .cons r1 r2, .cons h1 h2, hl => .cons (Dp.reads I _ _ _ (k.K ▸ Rp.dp _ _ (hl _ List.mem_cons_self) h1) r1) (sort_reads k I r2 h2 fun d hd => hl d (List.mem_cons_of_mem _ hd))
mutual
theorem reads_imm {h : Heap} : ∀ (d : D) (v : Value) (as : List Addr), imm d = true → Reads h v d as → as = []
  | .none, _, _, _, r => by cases r; rfl
  | .bool _, _, _, _, r => by cases r; rfl
  | .int _, _, _, _, r => by cases r; rfl
  | .str _, _, _, _, r => by cases r; rfl
  | .list ds, _, _, i, r => by simp [imm] at i
  | .tuple ds, _, _, i, r => by
    cases r with
    | tuple h1 h2 h3 h4 => exact readsAll_imm ds _ _ (by simpa [imm] using i) h4
  | .dict kvs, _, _, i, r => by simp [imm] at i
theorem readsAll_imm {h : Heap} : ∀ (ds : List D) (vs : List Value) (as : List Addr), immA ds = true → ReadsAll h vs ds as → as = []
  | [], _, _, _, r => by cases r; rfl
  | d :: ds, _, _, i, r => by
    simp only [immA, Bool.and_eq_true] at i
    cases r with
    | cons h1 h2 => rw [reads_imm d _ _ i.1 h1, readsAll_imm ds _ _ i.2 h2]; rfl
end
theorem sortOk_of {ds : List D} (h : sortOk ds = true) : immA ds = true ∧ W.AllAlike ds ∧ W.Sortable ds ∧ (∀ d ∈ ds, d.depth ≤ 60) ∧ ds.length ≤ 1000000 ∧ ∀ d ∈ ds, d.canLay0 = true := by
  unfold sortOk at h
  simp only [Bool.and_eq_true, Bool.or_eq_true, List.all_eq_true, decide_eq_true_eq] at h
  obtain ⟨⟨⟨⟨⟨h1, h2⟩, h3⟩, h4⟩, h5⟩, h6⟩ := h
  refine ⟨h1, h2, ?_, h4, h5, h6⟩
  rcases h3 with h3 | h3
  · refine .inl fun d hd => ?_
    have := h3 d hd
    unfold tupNE at this
    split at this
    · exact ⟨_, _, rfl⟩
    · cases this
  · refine .inr fun d hd => ?_
    have := h3 d hd
    constructor
    · intro e; rw [e] at this; simp [plainKey] at this
    · intro xs e; rw [e] at this; simp [plainKey] at this
theorem zip_snd : ∀ {vs : List V} {ds : List D}, vs.length = ds.length → (vs.zip ds).map (·.2) = ds
  | [], [], _ => rfl
  | [], _ :: _, h => by cases h
  | _ :: _, [], h => by cases h
  | v :: vs, d :: ds, h => by simp only [List.zip_cons_cons, List.map_cons, zip_snd (vs := vs) (ds := ds) (by simpa using h)]
theorem sorted_zip {vs : List V} {ds : List D} (h : vs.length = ds.length) : ((vs.zip ds).mergeSort (W.dataLe false (·.2))).map (·.2) = sortD ds := by
  rw [sortD_ms]
  rw [W.sort_maps (r := W.dataLe false (fun p : V × D => p.2)) (s := W.dataLe false id) (fun p : V × D => p.2) (fun _ _ _ _ => rfl), zip_snd h]
theorem op_sorted (k : Cok X C) (hc : X.calm = true) : CallR X (.builtin "sorted") (rSortD C) := by
  intro pins s σ H vs us Q I r h
  obtain ⟨x, d, ds, rfl, hx, hf, hok, q⟩ := h
  obtain ⟨h1, h2, h3, h4, h5, h6⟩ := sortOk_of hok
  obtain ⟨u, rfl, rx⟩ := vals1 r
  refine Calls.call_function_entry kind_sorted plain_sorted entry_sorted (args_sorted1 _) ?_
  unfold Builtin.«sorted»
  refine wpAny_bind (m := checkCount "sorted" 1 1 _) (wpAny_pure ?_)
  refine wpAny_bind (gather (A := X.A.in1) k (I.ok.hd hc) I rx hx hf h5 fun h' tk us vs hk rv hr => ?_)
  have I1 : L2.Inv X pins σ H { s with heap := h', toks := tk } := I.kept hk
  have hlv := hr.length
  have hlu := rv.length
  refine wpAny_bind (wpAny_newList ?_ (by rw [← hlu, hlv, sizeLine_eq]; omega))
  have I2 : L2.Inv X pins σ H { s with heap := h'.push (seqObj "list" us.toArray 0), toks := tk } := I1.kept (t' := tk) fun b o e => Heap.get?_push_of_some _ e
  have er : W.EachIs (fun u (p : V × D) => ∃ as, Reads (h'.push (seqObj "list" us.toArray 0)) u p.2 as ∧ h'.objs.size ∉ as) us (vs.zip ds) := by
    have e1 := sort_reads k I2 rv hr h6
    refine (W.each_mem e1).mono fun u p ⟨⟨as, z⟩, hp⟩ => ⟨as, z, ?_⟩
    have : p.2 ∈ ds := (List.of_mem_zip hp).2
    rw [reads_imm p.2 u as (immA_all h1 _ this) z]
    exact List.not_mem_nil
  have hlist := W.list_sort_data (prog := X.prog) (w := X.w) (A := X.A.in1) (E := X.xe) (s := { s with heap := h'.push (seqObj "list" us.toArray 0), toks := tk }) (a := h'.objs.size) (n := 0) (vs := us) (bs := vs.zip ds) (enc := (·.2)) (R := fun u (p : V × D) => RelV p.1 u)
    (Q := fun _ s' => EP X pins σ Q (.ref h'.objs.size) s') (Heap.get?_push_size _ rfl) (each_zip rv hlv) er (by rw [zip_snd hlv]; exact h2) (by rw [zip_snd hlv]; exact h3)
    (by rw [List.length_zip, hlv, Nat.min_self, sizeLine_eq]; omega) (fun b hb => by
      have := h4 b.2 (List.of_mem_zip hb).2
      have := k.un
      show X.A.units + 1 + 1 + b.2.depth < cLine
      omega) (fun out hlo ho => by
      have hv := vals_each ho
      obtain ⟨c, hcc⟩ := sortedHeap_at (h := h'.push (seqObj "list" us.toArray 0)) (a := h'.objs.size) (vs := us) (n := 0) (out := out.toArray) (Heap.get?_push_size _ rfl)
      have hps : ∀ p ∈ (vs.zip ds).mergeSort (W.dataLe false (·.2)), Rp C.w C.K H All p.1 p.2 := fun p hp => hr.zipped p (List.mem_mergeSort.mp hp)
      have hrp := RpA.of_zip hps
      rw [sorted_zip hlv] at hrp
      have ln : (((vs.zip ds).mergeSort (W.dataLe false (·.2))).map (·.1)).length ≤ sizeLine := by
        rw [List.length_map, List.length_mergeSort, List.length_zip, hlv, Nat.min_self, sizeLine_eq]; omega
      refine ⟨.ref h'.objs.size, upd H h'.objs.size (.lst (((vs.zip ds).mergeSort (W.dataLe false (·.2))).map (·.1))), ?_, rfl, q _ _ (I1.hok.fresh (Nat.le_refl _)) hrp⟩
      exact I1.laid (t' := tk) (fun b o e => by
        have hb := Heap.lt_size e
        rw [sortedHeap_old (Nat.ne_of_lt hb) (by rw [Heap.size_push]; exact Nat.lt_succ_of_lt hb)]
        exact Heap.get?_push_of_some _ e) (Nat.le_refl _) ⟨ln, out, c, hv, hcc⟩)
  refine wpAny_bind (wpAny_holding (wpAny_mono hlist (fun _ s' x => ?_) fun _ _ e => e))
  exact wpAny_pure ⟨_, rfl, x⟩
theorem sortD_imm {ds : List D} (h : immA ds = true) : immA (sortD ds) = true := immA_of fun d hd => immA_all h d (List.mem_mergeSort.mp (sortD_ms ds ▸ hd))
theorem cr_sortD : CROk C (rSortD C) sortedF := by
  intro σ ρ H F vs ds rv Q s hx hf q
  unfold sortedF at hf
  split at hf
  · rename_i d
    cases hs : seqF d with
    | none => rw [hs] at hf; cases hf
    | some ds =>
      rw [hs] at hf
      simp only at hf
      split at hf
      · rename_i hok
        cases hf
        obtain ⟨v, rfl, h⟩ := hx.one
        refine ⟨v, d, ds, rfl, h, hs, hok, fun p ys hp hr => ?_⟩
        have g : Gr C σ ρ H F (upd H p (.lst ys)) F := .new s hp
        exact q _ _ F g ⟨⟨p, ys, rfl, upd_same, s.freshF hp, s.fresh0 hp, RpA.mono (Le.new hp).keep (fun _ z => z) _ _ (RpA.imm _ _ (sortD_imm (sortOk_of hok).1) hr)⟩, fun _ => ⟨p, rfl, hp⟩⟩
      · cases hf
  · cases hf
/-! ### tuple(x), list(x) -/
def tupleF : List D → Option RV
  | [.list xs] => if immA xs = true ∧ xs.length ≤ 1000000 then some (.val (.tuple xs)) else none
  | [.tuple xs] => if immA xs = true then some (.val (.tuple xs)) else none
  | _ => none
theorem cr_tup (hK : C.K = X.K) : CROk C (fun xs H Q => ∃ p ys, xs = [.ref p] ∧ ((SqL X.K H p ys ∧ ∀ l, H l = none → Q (.ref l) (upd H l (.tup ys))) ∨ (SqT X.K H p ys ∧ Q (.ref p) H))) tupleF := by
  intro σ ρ H F vs ds rv Q s hx hf q
  unfold tupleF at hf
  split at hf
  · split at hf
    · rename_i hi
      cases hf
      obtain ⟨v, rfl, h⟩ := hx.one
      cases h with
      | lst h1 h2 =>
        rename_i a1 ys
        refine ⟨_, _, rfl, .inl ⟨hK ▸ h1.sq, fun l hl => ?_⟩⟩
        have g : Gr C σ ρ H F (upd H l (.tup ys)) F := Gr.new s hl
        exact q _ _ F g (.val (.tup (SqT.of upd_same) (RpA.mono (Le.new hl).keep (fun _ z => z) _ _ (RpA.imm _ _ hi.1 h2))))
    · cases hf
  · split at hf
    · rename_i hi
      cases hf
      obtain ⟨v, rfl, h⟩ := hx.one
      cases h with
      | tup h1 h2 => exact ⟨_, _, rfl, .inr ⟨hK ▸ h1, q _ H F (.refl s) (.val (.tup h1 (RpA.imm _ _ hi h2)))⟩⟩
    · cases hf
  · cases hf
def listF : List D → Option RV
  | [.list xs] => if immA xs = true then some (.ownL xs) else none
  | [.tuple xs] => if immA xs = true then some (.ownL xs) else none
  | [.dict kvs] => if immA (kvs.map (·.1)) = true then some (.ownL (kvs.map (·.1))) else none
  | _ => none
def rListD (C : Cc) : List V → Hp → VK → Prop := fun vs H Q => ∃ x d ds, vs = [x] ∧ Rp C.w C.K H All x d ∧ seqF d = some ds ∧ ∀ p ys, H p = none → RpA C.w C.K H All ys ds → Q (.ref p) (upd H p (.lst ys))
theorem op_list (k : Cok X C) (hc : X.calm = true) : CallR X (.type "list") (rListD C) := by
  intro pins s σ H vs us Q I r h
  obtain ⟨x, d, ds, rfl, hx, hf, q⟩ := h
  cases d with
  | list xs =>
    cases hf
    cases hx with
    | lst h1 h2 => exact call_list_of pins s σ H _ us Q I r ⟨_, _, rfl, .inl (k.K ▸ h1.sq), fun l hl => q l _ hl h2⟩
  | tuple xs =>
    cases hf
    cases hx with
    | tup h1 h2 => exact call_list_of pins s σ H _ us Q I r ⟨_, _, rfl, .inr (k.K ▸ h1), fun l hl => q l _ hl h2⟩
  | dict kvs =>
    cases hf
    cases hx with
    | dic h1 h2 h3 =>
      obtain ⟨u, rfl, rx⟩ := vals1 r
      cases rx
      rw [k.w] at h1
      have h3' := h3
      rw [k.w, k.K] at h3'
      obtain ⟨q1, q2, us, q3, q4⟩ := dic_of I h1 h3'
      rename_i a1 es1 ep1
      obtain ⟨des, ep, hr, hs, hat⟩ := q4.raw
      refine PySem.W.kdl_call (KdlSrc.rawDict q1) (I.ok.hd hc) hr (by rw [hs, withV_length q3]; exact q2) fun h' tk acc c hk hS hi => ?_
      have e : acc.toList = (withV es1 us).map fun x => Value.ref x.2.1 := by
        refine List.ext_getElem? fun i => ?_
        rw [Array.getElem?_toList]
        by_cases hlt : i < acc.size
        · have hg := Array.getElem?_eq_getElem hlt
          obtain ⟨hi2, ev⟩ := hi.2 i _ hg
          obtain ⟨y, hy, e1, _⟩ := hat i hi2
          rw [hg, List.getElem?_map, hy, ev, e1]
          rfl
        · have h1 : acc.size ≤ i := Nat.le_of_not_lt hlt
          rw [Array.getElem?_eq_none h1, List.getElem?_eq_none]
          rw [List.length_map, ← hs, ← hi.1]
          exact h1
      refine ⟨.ref s.heap.objs.size, upd H s.heap.objs.size (.lst (es1.map fun e => V.ref e.2.1)), ?_, rfl, q _ _ I.fresh (keysV h3)⟩
      exact I.laid (t' := tk) hk (Nat.le_refl _) ⟨by rw [List.length_map]; exact q2, acc.toList, c, by rw [e]; exact withV_refs q3, by simpa using hS⟩
  | _ => cases hf
theorem cr_listD : CROk C (rListD C) listF := by
  intro σ ρ H F vs ds rv Q s hx hf q
  have fin : ∀ {d : D} {xs : List D}, ds = [d] → seqF d = some xs → immA xs = true → rv = .ownL xs → rListD C vs H Q := fun {d xs} e1 e2 e3 e4 => by
    subst e1 e4
    obtain ⟨v, rfl, h⟩ := hx.one
    refine ⟨v, d, xs, rfl, h, e2, fun p ys hp hr => ?_⟩
    have g : Gr C σ ρ H F (upd H p (.lst ys)) F := .new s hp
    exact q _ _ F g ⟨⟨p, ys, rfl, upd_same, s.freshF hp, s.fresh0 hp, RpA.mono (Le.new hp).keep (fun _ z => z) _ _ (RpA.imm _ _ e3 hr)⟩, fun _ => ⟨p, rfl, hp⟩⟩
  unfold listF at hf
  split at hf
  · split at hf
    · cases hf; exact fin rfl rfl (by assumption) rfl
    · cases hf
  · split at hf
    · cases hf; exact fin rfl rfl (by assumption) rfl
    · cases hf
  · split at hf
    · cases hf; exact fin rfl rfl (by assumption) rfl
    · cases hf
  · cases hf
/-! ### isinstance(x, T) -/
def isF (T : String) : D → Option Bool
  | .none => kitB "NoneType" T
  | .bool _ => kitB "bool" T
  | .int _ => kitB "int" T
  | .str _ => kitB "str" T
  | .list _ => kitB "list" T
  | .tuple _ => kitB "tuple" T
  | .dict _ => none
theorem tyX_of {H : Hp} {F : Addr → Prop} {x : V} {d : D} {T : String} {b : Bool} (hK : C.K = X.K) (h : Rp C.w C.K H F x d) (hf : isF T d = some b) : ∃ t, TyX X.K H x t ∧ PySem.W.kitOne X.K t (.type T) = some b := by
  have tp : ∀ {a : Addr} {xs : List V}, SqT C.K H a xs → TyX X.K H (.ref a) (.type "tuple") := fun {a xs} h => by
    rw [hK] at h
    rcases h with (h | ⟨o, h⟩) | ⟨o, its, n, h1, h2, _⟩
    · exact .base (.tup h)
    · exact .fTuple h
    · exact .kTuple h1 h2
  have tl : ∀ {a : Addr} {xs : List V}, LsOk C.K H F a xs → TyX X.K H (.ref a) (.type "list") := fun {a xs} h => by
    rw [hK] at h
    rcases h with h | ⟨o, h⟩ | ⟨o, its, n, h1, h2, _⟩
    · exact .base (.lst h.1)
    · exact .base (.frz h)
    · exact .kList h1 h2
  cases h with
  | non => exact ⟨_, .base .non, kit_ty hf⟩
  | bl => exact ⟨_, .base (.bl _), kit_ty hf⟩
  | int => exact ⟨_, .base (.int _), kit_ty hf⟩
  | str => exact ⟨_, .base (.str _), kit_ty hf⟩
  | lst h1 h2 => exact ⟨_, tl h1, kit_ty hf⟩
  | tup h1 h2 => exact ⟨_, tp h1, kit_ty hf⟩
  | dic => cases hf
def oIs (T : String) (m : OM) : OM := fun ρ => eb (m ρ) fun d => eb (lift (isF T d)) fun b => ok (.bool b)
theorem DV.isi {x y : Str} {p p2 : Pos} {T : String} {m : OM} (k : Cok X C) (ha : DO X C a m) (hg : Gl X x) (hm : X.mg x = none) (hv : bootBuiltins x = some (.builtin "isinstance")) (hn : x ≠ "__name__") (hdb : (x == ("__debug__" : Str)) = false)
    (hg2 : Gl X y) (hm2 : X.mg y = none) (hv2 : bootBuiltins y = some (.type T)) (hn2 : y ≠ "__name__") (hdb2 : (y == ("__debug__" : Str)) = false)
    (he : starEach [a, .Name y p2] X.env = (false, eval a X.env) :: starEach [.Name y p2] X.env) (he2 : starEach [.Name y p2] X.env = (false, eval (.Name y p2) X.env) :: starEach [] X.env) (hpl : (backTo pos (starEach [.Name y p2] X.env)).any (·.1) = false) :
    DV X C (.Call (.Name x p) [a, .Name y p2] [] pos) (oIs T m) :=
  PE.imp (pe_callB (call_isi (X := X)) hg hm hv (pa_cons ha (pa_cons (pe_bltn (v := .ty T) hg2 hm2 hv2 rfl hn2 hdb2) pa_nil he2) he) hn hdb he hpl) fun σ H Q q => eb_O (m := m) (f := fun _ d => eb (lift (isF T d)) fun b => ok (.bool b)) q rfl fun ρ F d s hy hx hr v H' F' g x => by
    obtain ⟨r, hr⟩ := hr
    cases hf : isF T d with
    | none => simp [hf] at hr
    | some b =>
      obtain ⟨t, h1, h2⟩ := tyX_of (X := X) k.K x hf
      exact ⟨v, .ty T, t, .type T, b, rfl, .ty T, h1, h2, hy _ (by simp only [hf, lift_some, eb_ok]; rfl) _ H' F' g (.bl b)⟩
end
end TS
/-! T7: calls of defs -/
namespace TS
open PySem PySem.Spec PyProof.Rows L2

/-- what a def is worth -/
abbrev FM := List D → ER RV
/-- a def's result, over what it was handed -/
def RvOut (w : World) (K : Frg) (H H' : Hp) (F' : Addr → Prop) (v : V) : RV → Prop
  | .val d => Rp w K H' F' v d
  | .ownL ds => ∃ a xs, v = .ref a ∧ H a = none ∧ H' a = some (.lst xs) ∧ ¬ F' a ∧ RpA w K H' F' xs ds
  | .ownD kvs => ∃ a es ep, v = .ref a ∧ H a = none ∧ H' a = some (dicO w a es ep) ∧ ¬ F' a ∧ RpK w K H' F' es kvs
structure Grown (H : Hp) (F : Addr → Prop) (H' : Hp) (F' : Addr → Prop) : Prop where
  le : Le H H'
  ff : ∀ a, F a → F' a
  new : ∀ a, F' a → F a ∨ H a = none
  dom : ∀ a, F' a → ∃ o, H' a = some o
def spF (w : World) (K : Frg) (mg : Str → Option Value) (n : Nat) (f : FM) : Sp := fun vs H Q E => ∃ (F : Addr → Prop) (ds : List D) (r : Sum RV Exc), vs.length = n ∧ (∀ a, F a → ∃ o, H a = some o) ∧ RpA w K H F vs ds ∧ f ds = some r ∧ match r with
  | .inl rv => ∀ v H' F', Grown H F H' F' → RvOut w K H H' F' v rv → Q v H'
  | .inr x => ∀ cls d H', Le H H' → XOk' w K mg x cls d H' → E cls d H'
/-- the module's name x is a def of n parameters that is worth f, of a level at most k -/
def FnK (P : Program) (w : World) (K : Frg) (mg : Str → Option Value) (base : Heap) (x : Str) (n k : Nat) (fm : FM) : Prop :=
  ∃ f fd ps, ps.length = n ∧ FnOk P w K mg base (L2.CX P w) k f fd ps (spF w K mg n fm) ∧ mg x = some (.ref f) ∧ PySem.W.keepIn K (.ref f) = true ∧ Binds K fd ps []
abbrev FnX (X : Cx) (x : Str) (n k : Nat) (fm : FM) : Prop := FnK X.prog X.w X.K X.mg X.base x n k fm

def immRV : RV → Bool
  | .val d => imm d
  | .ownL ds => immA ds
  | .ownD kvs => immA (kvs.map (·.2))
theorem RpK.imm {w : World} {K : Frg} {H : Hp} {F F' : Addr → Prop} : ∀ {es : List Ent} {kvs : List (D × D)}, immA (kvs.map (·.2)) = true → RpK w K H F es kvs → RpK w K H F' es kvs
  | _, _, _, .nil => .nil
  | _, _, i, .cons h1 h2 h3 h4 h5 h6 => by
    simp only [List.map_cons, immA, Bool.and_eq_true] at i
    exact .cons h1 h2 h3 (Rp.imm _ _ h3 h4) (Rp.imm _ _ i.1 h5) (RpK.imm i.2 h6)
section
variable {C : Cc} {H H' : Hp} {F F' : Addr → Prop} {σ : L2.St} {ρ : Regs}
theorem SR.grown (s : SR C H F σ ρ) (g : Grown H F H' F') : SR C H' F' σ ρ := by
  refine ⟨s.len, fun i r e => ?_, s.dist, s.h0.trans g.le, fun a h => g.ff a (s.f0 a h), fun a h => ?_, g.dom, s.fx⟩
  · obtain ⟨v, h1, h2⟩ := s.at_ i r e
    refine ⟨v, h1, ?_⟩
    cases r with
    | val d => exact Rp.mono g.le.keep g.ff d v h2
    | ownL ds =>
      obtain ⟨a, xs, q, h3, h4, h5, h6⟩ := h2
      refine ⟨a, xs, q, g.le _ _ h3, fun z => ?_, h5, RpA.mono g.le.keep g.ff ds xs h6⟩
      rcases g.new a z with z | z
      · exact h4 z
      · rw [h3] at z; cases z
    | ownD kvs =>
      obtain ⟨a, es, ep, q, h3, h4, h5, h6⟩ := h2
      refine ⟨a, es, ep, q, g.le _ _ h3, fun z => ?_, h5, RpK.mono g.le.keep g.ff kvs es h6⟩
      rcases g.new a z with z | z
      · exact h4 z
      · rw [h3] at z; cases z
  · rcases g.new a h with h | h
    · exact s.fnew a h
    · exact .inr (s.fresh0 h)
theorem Grown.gr (g : Grown H F H' F') (s : SR C H F σ ρ) : Gr C σ ρ H F H' F' := ⟨g.le, g.ff, s.grown g, s⟩
theorem RvOut.new {v : V} {rv : RV} (s : SR C H F σ ρ) (h : RvOut C.w C.K H H' F' v rv) : RvNew C H H' F' v rv := by
  cases rv with
  | val d => exact ⟨h, fun z => by cases z⟩
  | ownL ds =>
    obtain ⟨a, xs, e, h1, h2, h3, h4⟩ := h
    exact ⟨⟨a, xs, e, h2, h3, s.fresh0 h1, h4⟩, fun _ => ⟨a, e, h1⟩⟩
  | ownD kvs =>
    obtain ⟨a, es, ep, e, h1, h2, h3, h4⟩ := h
    exact ⟨⟨a, es, ep, e, h2, h3, s.fresh0 h1, h4⟩, fun _ => ⟨a, e, h1⟩⟩
/-- a result without lists and dicts within, over any set -/
theorem RvOut.imm {v : V} {rv : RV} {F2 : Addr → Prop} (s : SR C H F2 σ ρ) (hi : immRV rv = true) (h : RvOut C.w C.K H H' F' v rv) : RvOut C.w C.K H H' F2 v rv := by
  cases rv with
  | val d => exact Rp.imm d v hi h
  | ownL ds =>
    obtain ⟨a, xs, e, h1, h2, h3, h4⟩ := h
    exact ⟨a, xs, e, h1, h2, s.freshF h1, RpA.imm _ _ hi h4⟩
  | ownD kvs =>
    obtain ⟨a, es, ep, e, h1, h2, h3, h4⟩ := h
    exact ⟨a, es, ep, e, h1, h2, s.freshF h1, RpK.imm hi h4⟩
end
mutual
theorem Rp.dom {w : World} {K : Frg} {H : Hp} : ∀ (d : D) (v : V), Rp w K H All v d → Rp w K H (fun a => ∃ o, H a = some o) v d
  | .none, _, h => by cases h; exact .non
  | .bool _, _, h => by cases h; exact .bl _
  | .int _, _, h => by cases h; exact .int _
  | .str _, _, h => by cases h; exact .str _
  | .list ds, _, h => by
    cases h with
    | lst h1 h2 =>
      refine .lst ?_ (RpA.dom ds _ h2)
      rcases h1 with h1 | h1
      · exact .inl ⟨h1.1, _, h1.1⟩
      · exact .inr h1
  | .tuple ds, _, h => by cases h with | tup h1 h2 => exact .tup h1 (RpA.dom ds _ h2)
  | .dict kvs, _, h => by cases h with | dic h1 h2 h3 => exact .dic h1 ⟨_, h1⟩ (RpK.dom kvs _ h3)
theorem RpA.dom {w : World} {K : Frg} {H : Hp} : ∀ (ds : List D) (vs : List V), RpA w K H All vs ds → RpA w K H (fun a => ∃ o, H a = some o) vs ds
  | [], _, h => by cases h; exact .nil
  | d :: ds, _, h => by cases h with | cons h1 h2 => exact .cons (Rp.dom d _ h1) (RpA.dom ds _ h2)
theorem RpK.dom {w : World} {K : Frg} {H : Hp} : ∀ (kvs : List (D × D)) (es : List Ent), RpK w K H All es kvs → RpK w K H (fun a => ∃ o, H a = some o) es kvs
  | [], _, h => by cases h; exact .nil
  | (dk, dv) :: kvs, _, h => by cases h with | cons h1 h2 h3 h4 h5 h6 => exact .cons h1 h2 h3 (Rp.dom dk _ h4) (Rp.dom dv _ h5) (RpK.dom kvs _ h6)
end
section
variable {X : Cx} {C : Cc} {e : Expr} {es : List Expr} {x : Str} {p pos : Pos} {n kk : Nat} {fm : FM} {l : LM}
/-- f(..) whose result has no list or dict within -/
def eCall (n : Nat) (f : FM) (l : LM) : EM := fun ρ => eb (l ρ) fun ds => if ds.length = n then eb (f ds) fun rv => if immRV rv = true then ok rv else none else none
/-- f(..), the arguments let go -/
def eCallV (n : Nat) (f : FM) (l : LM) : EM := fun ρ => eb (l ρ) fun ds => if ds.length = n then f ds else none
theorem DE.call (k : Cok X C) (f : FnX X x n kk fm) (hr : Room kk X.A) (hg : Gl X x) (ha : DL X C (e :: es) l) (hdb : (x == ("__debug__" : Str)) = false := by decide) (he : starEach (e :: es) X.env = (false, eval e X.env) :: starEach es X.env := by rfl) (hpl : (backTo pos (starEach es X.env)).any (·.1) = false := by rfl) :
    DE X C (.Call (.Name x p) (e :: es) [] pos) (eCall n fm l) := by
  obtain ⟨f, fd, ps, hn, F, hm, hk, hb⟩ := f
  refine PE.imp (pe_callS F hr hg hm hk hb (passAt k.tk) ha hdb he hpl) fun σ H Q q => ?_
  refine eb_L (m := l) (f := fun _ ds => if ds.length = n then eb (fm ds) fun rv => if immRV rv = true then ok rv else none else none) q rfl fun ρ F ds s hy hx hr vs H' F' g x => ?_
  by_cases hl : ds.length = n
  · rw [if_pos hl] at hy hx hr
    have xd : RpA C.w C.K H' (fun a => ∃ o, H' a = some o) vs ds := RpA.dom ds vs x
    obtain ⟨r, hr⟩ := hr
    cases hf : fm ds with
    | none => rw [hf] at hr; cases hr
    | some sf =>
      rw [hf] at hy hx hr
      refine ⟨_, ds, sf, by rw [x.length]; exact hl, fun a h => h, k.w ▸ k.K ▸ xd, hf, ?_⟩
      cases sf with
      | inr z =>
        intro cls d H2 hle hxo
        have g2 : Gr C σ ρ H F H2 F' := ⟨g.le.trans hle, g.ff, g.sr.le hle, g.sr0⟩
        rw [← k.w, ← k.K] at hxo
        exact hx z rfl cls d H2 F' g2 hxo
      | inl rv =>
        intro v H2 F2 gr ho
        rw [← k.w, ← k.K] at ho
        simp only [eb_inl] at hy hr
        by_cases hi : immRV rv = true
        · rw [if_pos hi] at hy
          have g2 : Gr C σ ρ H F H2 F' := ⟨g.le.trans gr.le, g.ff, g.sr.le gr.le, g.sr0⟩
          exact hy rv rfl v H2 F' g2 (((ho.imm g.sr hi).new g.sr).back g.le)
        · rw [if_neg hi] at hr; cases hr
  · obtain ⟨r, hr⟩ := hr
    rw [if_neg hl] at hr; cases hr
theorem DE.callV (k : Cok X C) (f : FnX X x n kk fm) (hr : Room kk X.A) (hg : Gl X x) (ha : DLV X C (e :: es) l) (hdb : (x == ("__debug__" : Str)) = false := by decide) (he : starEach (e :: es) X.env = (false, eval e X.env) :: starEach es X.env := by rfl) (hpl : (backTo pos (starEach es X.env)).any (·.1) = false := by rfl) :
    DE X C (.Call (.Name x p) (e :: es) [] pos) (eCallV n fm l) := by
  obtain ⟨f, fd, ps, hn, F, hm, hk, hb⟩ := f
  refine PE.imp (pe_callS F hr hg hm hk hb (passAt k.tk) ha hdb he hpl) fun σ H Q q => ?_
  refine eb_LV (m := l) (f := fun _ ds => if ds.length = n then fm ds else none) q rfl fun ρ F ds s hy hx hr vs H' F' g x => ?_
  by_cases hl : ds.length = n
  · rw [if_pos hl] at hy hx hr
    obtain ⟨r, hf⟩ := hr
    rw [hf] at hy hx
    refine ⟨F', ds, r, by rw [x.length]; exact hl, g.sr.fdom, k.w ▸ k.K ▸ x, hf, ?_⟩
    cases r with
    | inr z =>
      intro cls d H2 hle hxo
      have g2 : Gr C σ ρ H F H2 F' := ⟨g.le.trans hle, g.ff, g.sr.le hle, g.sr0⟩
      rw [← k.w, ← k.K] at hxo
      exact hx z rfl cls d H2 F' g2 hxo
    | inl rv =>
      intro v H2 F2 gr ho
      rw [← k.w, ← k.K] at ho
      exact hy rv rfl v H2 F2 (g.trans (gr.gr g.sr)) ((ho.new g.sr).back g.le)
  · obtain ⟨r, hr⟩ := hr
    rw [if_neg hl] at hr; cases hr
end
end TS
/-! T8: statements -/
namespace TS
open PySem PySem.Spec PyProof.Rows L2

inductive Out where
  | nx (ρ : Regs)
  | rt (rv : RV) (ρ : Regs)
  | ex (x : Exc) (ρ : Regs)
  | bk (ρ : Regs)
  | ct (ρ : Regs)
abbrev SM := Regs → Option Out
structure Kp (H : Hp) (F : Addr → Prop) (H' : Hp) (F' : Addr → Prop) : Prop where
  keep : Keep F H H'
  ff : ∀ a, F a → F' a
/-- what is wanted behind an outcome -/
def Wo (C : Cc) (mg : Str → Option Value) (D : Ends) (o : Out) (H : Hp) (F : Addr → Prop) : Prop := match o with
  | .nx ρ' => ∀ σ' H' F', Kp H F H' F' → SR C H' F' σ' ρ' → D.nx σ' H'
  | .rt rv ρ' => ∀ v σ' H' F', Kp H F H' F' → SR C H' F' σ' ρ' → RvOut C.w C.K C.H0 H' F' v rv → D.rt v H'
  | .ex x ρ' => ∀ cls d σ' H' F', Kp H F H' F' → SR C H' F' σ' ρ' → XOk C mg x cls d H' → C.W cls d σ' H'
  | .bk ρ' => ∀ σ' H' F', Kp H F H' F' → SR C H' F' σ' ρ' → D.bk σ' H'
  | .ct ρ' => ∀ σ' H' F', Kp H F H' F' → SR C H' F' σ' ρ' → D.ct σ' H'
def tSt (C : Cc) (mg : Str → Option Value) (m : SM) : L2.TS := fun D σ H => ∃ ρ F o, SR C H F σ ρ ∧ m ρ = some o ∧ Wo C mg D o H F
def DS (X : Cx) (C : Cc) (st : Stmt) (m : SM) : Prop := PS X st (tSt C X.mg m)
def DSs (X : Cx) (C : Cc) (sts : List Stmt) (m : SM) : Prop := PSs X sts (tSt C X.mg m)
theorem PS.imp {X : Cx} {st : Stmt} {t t' : L2.TS} (h : PS X st t) (i : ∀ D σ H, t' D σ H → t D σ H) : PS X st t' := ⟨fun pins s σ H D I q => h.run pins s σ H D I (i D σ H q)⟩
theorem PSs.imp {X : Cx} {st : List Stmt} {t t' : L2.TS} (h : PSs X st t) (i : ∀ D σ H, t' D σ H → t D σ H) : PSs X st t' := ⟨fun pins s σ H D I q => h.run pins s σ H D I (i D σ H q)⟩
section
variable {C : Cc} {mg : Str → Option Value} {H H' H'' : Hp} {F F' F'' : Addr → Prop} {σ σ' : L2.St} {ρ ρ' : Regs} {En : Ends} {o : Out}
theorem Keep.trans (a : Keep F H H') (f : ∀ a, F a → F' a) (b : Keep F' H' H'') : Keep F H H'' :=
  ⟨fun x xs e => b.tup x xs (a.tup x xs e), fun x o u e => b.frz x o u (a.frz x o u e), fun x o h e => b.own x o (f x h) (a.own x o h e)⟩
theorem Kp.refl : Kp H F H F := ⟨Le.refl.keep, fun _ h => h⟩
theorem Kp.trans (a : Kp H F H' F') (b : Kp H' F' H'' F'') : Kp H F H'' F'' := ⟨a.keep.trans a.ff b.keep, fun x h => b.ff x (a.ff x h)⟩
theorem Gr.kp (g : Gr C σ ρ H F H' F') : Kp H F H' F' := ⟨g.le.keep, g.ff⟩
theorem Kp.rp {v : V} {d : D} (k : Kp H F H' F') (h : Rp C.w C.K H F v d) : Rp C.w C.K H' F' v d := Rp.mono k.keep k.ff d v h
theorem Kp.rpA {v : List V} {d : List D} (k : Kp H F H' F') (h : RpA C.w C.K H F v d) : RpA C.w C.K H' F' v d := RpA.mono k.keep k.ff d v h
theorem Wo.kp (k : Kp H F H' F') (w : Wo C mg En o H F) : Wo C mg En o H' F' := by
  cases o with
  | nx ρ' => exact fun σ' H2 F2 k2 s => w σ' H2 F2 (k.trans k2) s
  | rt rv ρ' => exact fun v σ' H2 F2 k2 s => w v σ' H2 F2 (k.trans k2) s
  | ex x ρ' => exact fun cls d σ' H2 F2 k2 s => w cls d σ' H2 F2 (k.trans k2) s
  | bk ρ' => exact fun σ' H2 F2 k2 s => w σ' H2 F2 (k.trans k2) s
  | ct ρ' => exact fun σ' H2 F2 k2 s => w σ' H2 F2 (k.trans k2) s
/-- an expression's outcome, then more -/
def sb {α : Type} (m : Regs → ER α) (f : Regs → α → Option Out) : SM := fun ρ => match m ρ with
  | none => none
  | some (.inr x) => some (.ex x ρ)
  | some (.inl a) => f ρ a
theorem st_M {α : Type} {m : Regs → ER α} {f : Regs → α → Option Out} {Z : L2.St → Regs → Hp → (Addr → Prop) → α → Prop} (h : tSt C mg (sb m f) En σ H)
    (hz : ∀ ρ F a o, SR C H F σ ρ → m ρ = some (.inl a) → f ρ a = some o → Wo C mg En o H F → Z σ ρ H F a) : tM C mg m Z σ H := by
  obtain ⟨ρ, F, o, s, e, w⟩ := h
  unfold sb at e
  cases hm : m ρ with
  | none => rw [hm] at e; cases e
  | some r =>
    rw [hm] at e
    cases r with
    | inr x =>
      cases e
      exact ⟨ρ, F, _, s, hm, fun cls d H2 F2 g k => w cls d σ H2 F2 g.kp g.sr k⟩
    | inl a => exact ⟨ρ, F, _, s, hm, hz ρ F a o s hm e w⟩
theorem st_E {m : EM} {f : Regs → RV → Option Out} {R : V → Hp → Prop} (h : tSt C mg (sb m f) En σ H)
    (hz : ∀ ρ F a o, SR C H F σ ρ → m ρ = some (.inl a) → f ρ a = some o → Wo C mg En o H F → ∀ v H' F', Gr C σ ρ H F H' F' → RvNew C H H' F' v a → R v H') : tE C mg m σ H R := st_M h hz
theorem st_O {m : OM} {f : Regs → D → Option Out} {R : V → Hp → Prop} (h : tSt C mg (sb m f) En σ H)
    (hz : ∀ ρ F a o, SR C H F σ ρ → m ρ = some (.inl a) → f ρ a = some o → Wo C mg En o H F → ∀ v H' F', Gr C σ ρ H F H' F' → Rp C.w C.K H' All v a → R v H') : tO C mg m σ H R := st_M h hz
theorem st_V {m : OM} {f : Regs → D → Option Out} {R : V → Hp → Prop} (h : tSt C mg (sb m f) En σ H)
    (hz : ∀ ρ F a o, SR C H F σ ρ → m ρ = some (.inl a) → f ρ a = some o → Wo C mg En o H F → ∀ v H' F', Gr C σ ρ H F H' F' → Rp C.w C.K H' F' v a → R v H') : tV C mg m σ H R := st_M h hz
theorem st_B {m : BM} {f : Regs → Bool → Option Out} {R : Bool → Hp → Prop} (h : tSt C mg (sb m f) En σ H)
    (hz : ∀ ρ F a o, SR C H F σ ρ → m ρ = some (.inl a) → f ρ a = some o → Wo C mg En o H F → ∀ H' F', Gr C σ ρ H F H' F' → R a H') : tB C mg m σ H R := st_M h hz
/-! ### slots -/
theorem SR.set {i : Nat} {v : V} {rv : RV} (s : SR C H F σ ρ) (h : RvAt C H F v rv) (ho : isOwn rv = true → ∀ a, v = .ref a → ∀ j, ¬ Own σ ρ j a) (hf : C.fx i = none) : SR C H F (σ.set i (some v)) (ρ.set i (some rv)) := by
  have own : ∀ {j a}, j ≠ i → Own (σ.set i (some v)) (ρ.set i (some rv)) j a → Own σ ρ j a := fun {j a} hj ⟨h1, r, h2, h3⟩ => by
    rw [List.getElem?_set_ne (Ne.symm hj)] at h1 h2
    exact ⟨h1, r, h2, h3⟩
  have at_i : ∀ {a}, Own (σ.set i (some v)) (ρ.set i (some rv)) i a → isOwn rv = true ∧ v = .ref a := fun {a} ⟨h1, r, h2, h3⟩ => by
    rw [List.getElem?_set_self'] at h1 h2
    cases e1 : σ[i]? with
    | none => rw [e1] at h1; cases h1
    | some u =>
      rw [e1] at h1
      cases e2 : ρ[i]? with
      | none => rw [e2] at h2; cases h2
      | some u2 =>
        rw [e2] at h2
        simp at h1 h2
        subst h2
        exact ⟨h3, h1⟩
  refine ⟨by rw [List.length_set, List.length_set]; exact s.len, fun j r e => ?_, fun j k a o1 o2 => ?_, s.h0, s.f0, s.fnew, s.fdom, fun j u e => ?_⟩
  · by_cases hj : j = i
    · subst hj
      rw [List.getElem?_set_self'] at e
      cases e2 : ρ[j]? with
      | none => rw [e2] at e; cases e
      | some u =>
        rw [e2] at e
        simp at e
        subst e
        refine ⟨v, ?_, h⟩
        have hl : j < σ.length := by rw [← s.len]; exact (List.getElem?_eq_some_iff.mp e2).1
        rw [List.getElem?_set_self hl]
    · rw [List.getElem?_set_ne (Ne.symm hj)] at e ⊢
      exact s.at_ j r e
  · by_cases hj : j = i
    · by_cases hk : k = i
      · rw [hj, hk]
      · subst hj
        obtain ⟨h1, h2⟩ := at_i o1
        exact absurd (own hk o2) (ho h1 a h2 k)
    · by_cases hk : k = i
      · subst hk
        obtain ⟨h1, h2⟩ := at_i o2
        exact absurd (own hj o1) (ho h1 a h2 j)
      · exact s.dist j k a (own hj o1) (own hk o2)
  · by_cases hj : j = i
    · subst hj; rw [hf] at e; cases e
    · rw [List.getElem?_set_ne (Ne.symm hj)]
      exact s.fx j u e
/-- what a register holds is forgotten -/
theorem SR.forget (i : Nat) (s : SR C H F σ ρ) : SR C H F σ (ρ.set i none) := by
  have own : ∀ {j a}, Own σ (ρ.set i none) j a → Own σ ρ j a := fun {j a} ⟨h1, r, h2, h3⟩ => by
    by_cases hj : j = i
    · subst hj
      rw [List.getElem?_set_self'] at h2
      cases e : ρ[j]? with
      | none => rw [e] at h2; cases h2
      | some u => rw [e] at h2; simp at h2
    · rw [List.getElem?_set_ne (Ne.symm hj)] at h2
      exact ⟨h1, r, h2, h3⟩
  refine ⟨by rw [List.length_set]; exact s.len, fun j r e => ?_, fun j k a o1 o2 => s.dist j k a (own o1) (own o2), s.h0, s.f0, s.fnew, s.fdom, s.fx⟩
  by_cases hj : j = i
  · subst hj
    rw [List.getElem?_set_self'] at e
    cases e2 : ρ[j]? with
    | none => rw [e2] at e; cases e
    | some u => rw [e2] at e; simp at e
  · rw [List.getElem?_set_ne (Ne.symm hj)] at e
    exact s.at_ j r e
theorem SR.vals {i : Nat} {v : V} {d : D} (s : SR C H F σ ρ) (h : Rp C.w C.K H F v d) (hf : C.fx i = none) : SR C H F (σ.set i (some v)) (ρ.set i (some (.val d))) := s.set (rv := .val d) h (fun z => by cases z) hf
/-- a register's own thing is let go -/
def frz (i : Nat) (ρ : Regs) : Regs := match ρ[i]? with
  | some (some rv) => ρ.set i (some (.val rv.dat))
  | _ => ρ
theorem SR.frz (i : Nat) (s : SR C H F σ ρ) : ∃ F', Kp H F H F' ∧ SR C H F' σ (TS.frz i ρ) := by
  unfold TS.frz
  split
  · rename_i rv e
    obtain ⟨v, e1, h⟩ := s.at_ i rv e
    have hl : i < ρ.length := (List.getElem?_eq_some_iff.mp e).1
    cases rv with
    | val d =>
      refine ⟨F, .refl, ?_⟩
      have : ρ.set i (some (.val (RV.val d).dat)) = ρ := by
        apply List.ext_getElem?
        intro j
        by_cases hj : j = i
        · subst hj; rw [List.getElem?_set_self hl, e]; rfl
        · rw [List.getElem?_set_ne (Ne.symm hj)]
      rw [this]; exact s
    | ownL ds =>
      obtain ⟨a, xs, q, h1, h2, h3, h4⟩ := h
      subst q
      have s1 := s.forget i
      have no : ∀ j, ¬ Own σ (ρ.set i none) j a := fun j ⟨z1, r, z2, z3⟩ => by
        by_cases hj : j = i
        · subst hj; rw [List.getElem?_set_self hl] at z2; cases z2
        · rw [List.getElem?_set_ne (Ne.symm hj)] at z2
          exact hj (s.dist j i a ⟨z1, r, z2, z3⟩ ⟨e1, _, e, rfl⟩)
      have s2 := s1.freeze h1 h3 no
      refine ⟨fun b => F b ∨ b = a, ⟨Le.refl.keep, fun _ h => Or.inl h⟩, ?_⟩
      refine ⟨by rw [List.length_set]; exact s.len, fun j r ej => ?_, fun j k b o1 o2 => ?_, s2.h0, s2.f0, s2.fnew, s2.fdom, s2.fx⟩
      · by_cases hj : j = i
        · subst hj
          rw [List.getElem?_set_self hl] at ej
          cases ej
          exact ⟨_, e1, .lst (.inl ⟨h1, .inr rfl⟩) (RpA.mono Le.refl.keep (fun _ z => .inl z) ds xs h4)⟩
        · rw [List.getElem?_set_ne (Ne.symm hj)] at ej
          exact s2.at_ j r (by rw [List.getElem?_set_ne (Ne.symm hj)]; exact ej)
      · have cv : ∀ {j}, Own σ (ρ.set i (some (.val (RV.ownL ds).dat))) j b → Own σ ρ j b := fun {j} ⟨z1, r, z2, z3⟩ => by
          by_cases hj : j = i
          · subst hj; rw [List.getElem?_set_self hl] at z2; cases z2; cases z3
          · rw [List.getElem?_set_ne (Ne.symm hj)] at z2; exact ⟨z1, r, z2, z3⟩
        exact s.dist j k b (cv o1) (cv o2)
    | ownD kvs =>
      obtain ⟨a, es, ep, q, h1, h2, h3, h4⟩ := h
      subst q
      have s1 := s.forget i
      have no : ∀ j, ¬ Own σ (ρ.set i none) j a := fun j ⟨z1, r, z2, z3⟩ => by
        by_cases hj : j = i
        · subst hj; rw [List.getElem?_set_self hl] at z2; cases z2
        · rw [List.getElem?_set_ne (Ne.symm hj)] at z2
          exact hj (s.dist j i a ⟨z1, r, z2, z3⟩ ⟨e1, _, e, rfl⟩)
      have s2 := s1.freeze h1 h3 no
      refine ⟨fun b => F b ∨ b = a, ⟨Le.refl.keep, fun _ h => Or.inl h⟩, ?_⟩
      refine ⟨by rw [List.length_set]; exact s.len, fun j r ej => ?_, fun j k b o1 o2 => ?_, s2.h0, s2.f0, s2.fnew, s2.fdom, s2.fx⟩
      · by_cases hj : j = i
        · subst hj
          rw [List.getElem?_set_self hl] at ej
          cases ej
          exact ⟨_, e1, .dic h1 (.inr rfl) (RpK.mono Le.refl.keep (fun _ z => .inl z) kvs es h4)⟩
        · rw [List.getElem?_set_ne (Ne.symm hj)] at ej
          exact s2.at_ j r (by rw [List.getElem?_set_ne (Ne.symm hj)]; exact ej)
      · have cv : ∀ {j}, Own σ (ρ.set i (some (.val (RV.ownD kvs).dat))) j b → Own σ ρ j b := fun {j} ⟨z1, r, z2, z3⟩ => by
          by_cases hj : j = i
          · subst hj; rw [List.getElem?_set_self hl] at z2; cases z2; cases z3
          · rw [List.getElem?_set_ne (Ne.symm hj)] at z2; exact ⟨z1, r, z2, z3⟩
        exact s.dist j k b (cv o1) (cv o2)
  · exact ⟨F, .refl, s⟩
end
section
variable {X : Cx} {C : Cc} {st : Stmt} {sts : List Stmt} {e : Expr} {pos pos' : Pos} {m m2 : SM}
/-! ### blocks -/
def sSkip : SM := fun ρ => some (.nx ρ)
def sSeq (a b : SM) : SM := fun ρ => match a ρ with
  | some (.nx ρ') => b ρ'
  | r => r
theorem DSs.nil : DSs X C [] sSkip := PSs.imp pss_nil fun D σ H ⟨ρ, F, o, s, e, w⟩ => by
  cases e
  exact w σ H F .refl s
theorem seq_imp {C : Cc} {mg : Str → Option Value} {m m2 : SM} {D : Ends} {σ : L2.St} {H : Hp} (h : tSt C mg (sSeq m m2) D σ H) : tSeq (tSt C mg m) (tSt C mg m2) D σ H := by
  obtain ⟨ρ, F, o, s, e, w⟩ := h
  unfold sSeq at e
  cases hm : m ρ with
  | none => rw [hm] at e; cases e
  | some o1 =>
    rw [hm] at e
    refine ⟨ρ, F, o1, s, hm, ?_⟩
    cases o1 with
    | nx ρ' => exact fun σ' H' F' k s' => ⟨ρ', F', o, s', e, w.kp k⟩
    | rt rv ρ' => cases e; exact w
    | ex x ρ' => cases e; exact w
    | bk ρ' => cases e; exact w
    | ct ρ' => cases e; exact w
theorem DSs.cons (h1 : DS X C st m) (h2 : DSs X C sts m2) : DSs X C (st :: sts) (sSeq m m2) := PSs.imp (pss_cons h1 h2) fun _ _ _ h => seq_imp h
theorem DSs.one (h1 : DS X C st m) : DSs X C [st] m := PSs.imp (pss_one h1) fun _ _ _ h => h
theorem DSs.doc {x : Str} {j : Nat} {p p' : Pos} (h2 : DSs X C sts m2) (h0 : DS X C (.Expr (.Constant (.str x) j p) p') sSkip) : DSs X C (.Expr (.Constant (.str x) j p) p' :: sts) m2 := PSs.imp (pss_cons h0 h2) fun D σ H h => seq_imp (m := sSkip) h
theorem DS.docS {x j} {p p' : Pos} : DS X C (.Expr (.Constant (.str x) j p) p') sSkip := PS.imp ps_doc fun D σ H ⟨ρ, F, o, s, e, w⟩ => by
  cases e
  exact w σ H F .refl s
theorem DS.pass : DS X C (.Pass pos) sSkip := PS.imp ps_pass fun D σ H ⟨ρ, F, o, s, e, w⟩ => by
  cases e
  exact w σ H F .refl s
def sBrk : SM := fun ρ => some (.bk ρ)
def sCnt : SM := fun ρ => some (.ct ρ)
theorem DS.brk : DS X C (.Break pos) sBrk := PS.imp ps_break fun D σ H ⟨ρ, F, o, s, e, w⟩ => by
  cases e
  exact w σ H F .refl s
theorem DS.cnt : DS X C (.Continue pos) sCnt := PS.imp ps_continue fun D σ H ⟨ρ, F, o, s, e, w⟩ => by
  cases e
  exact w σ H F .refl s
/-- a register's own thing is let go ahead of the statement -/
def sFrz (i : Nat) (m : SM) : SM := fun ρ => m (frz i ρ)
theorem frz_imp {C : Cc} {mg : Str → Option Value} {m : SM} {i : Nat} {D : Ends} {σ : L2.St} {H : Hp} (h : tSt C mg (sFrz i m) D σ H) : tSt C mg m D σ H := by
  obtain ⟨ρ, F, o, s, e, w⟩ := h
  obtain ⟨F', k, s'⟩ := s.frz i
  exact ⟨_, F', o, s', e, w.kp k⟩
theorem DS.frz (i : Nat) (h : DS X C st m) : DS X C st (sFrz i m) := PS.imp h fun _ _ _ q => frz_imp q
theorem DSs.frz (i : Nat) (h : DSs X C sts m) : DSs X C sts (sFrz i m) := PSs.imp h fun _ _ _ q => frz_imp q
/-! ### small statements -/
def sExp (m : EM) : SM := sb m fun ρ _ => some (.nx ρ)
theorem DS.exp {m : EM} (h : DE X C e m) (hs : swapsWith e none pos.line X.env = pure false := by rfl) : DS X C (.Expr e pos) (sExp m) := PS.imp (ps_expr h hs) fun D σ H q => by
  refine st_E q fun ρ F a o s _ e w => ?_
  cases e
  exact fun v H' F' g x => w σ H' F' g.kp g.sr
def sSet (i : Nat) (m : EM) : SM := sb m fun ρ rv => some (.nx (ρ.set i (some rv)))
theorem DS.set {i : Nat} {x : Str} {m : EM} (hN : X.N.Nodup) (hi : X.N[i]? = some x) (hx : Loc X.env.scope x) (h : DE X C e m) (hf : C.fx i = none := by rfl) (hs : swapsWith e (some (.Name x pos')) pos.line X.env = pure false := by rfl) (hl : X.fn x = true ∨ X.env.scope.names.lookup x = some .local := by first | exact .inl rfl | exact .inr rfl | assumption) :
    DS X C (.Assign [.Name x pos'] e pos) (sSet i m) := PS.imp (ps_set hN hi hx h hs hl) fun D σ H q => by
  refine st_E q fun ρ F a o s _ e w => ?_
  cases e
  exact fun v H' F' g x => w _ H' F' g.kp (g.sr.set x.1 (fun ho b eb j oj => by
    obtain ⟨c, ec, n⟩ := x.2 ho
    rw [ec] at eb; cases eb
    exact g.sr0.not_own n j oj) hf)
theorem RvNew.out {C : Cc} {H₀ H H' : Hp} {F F' : Addr → Prop} {v : V} {rv : RV} {σ : L2.St} {ρ : Regs} (s : SR C H' F' σ ρ) (x : RvAt C H' F' v rv) : RvOut C.w C.K C.H0 H' F' v rv := by
  cases rv with
  | val d => exact x
  | ownL ds =>
    obtain ⟨a, xs, e, h1, h2, h3, h4⟩ := x
    exact ⟨a, xs, e, h3, h1, h2, h4⟩
  | ownD kvs =>
    obtain ⟨a, es, ep, e, h1, h2, h3, h4⟩ := x
    exact ⟨a, es, ep, e, h3, h1, h2, h4⟩
def sRet (m : EM) : SM := sb m fun ρ rv => some (.rt rv ρ)
theorem DS.ret {m : EM} (h : DE X C e m) : DS X C (.Return (some e) pos) (sRet m) := PS.imp (ps_ret h) fun D σ H q => by
  refine st_E q fun ρ F a o s _ e w => ?_
  cases e
  exact fun v H' F' g x => w v σ H' F' g.kp g.sr (RvNew.out (H₀ := H) (H := H) (F := F) g.sr x.1)
def sRetN : SM := fun ρ => some (.rt (.val .none) ρ)
theorem DS.retN : DS X C (.Return none pos) sRetN := PS.imp ps_retN fun D σ H ⟨ρ, F, o, s, e, w⟩ => by
  cases e
  exact w .non σ H F .refl s .non
/-- a name's own thing is given back -/
def sRetV (i : Nat) : SM := fun ρ => match ρ[i]? with
  | some (some rv) => some (.rt rv (ρ.set i none))
  | _ => none
theorem DS.retV {i : Nat} {x : Str} {p : Pos} (hN : X.N[i]? = some x) (hv : Vis X.env.scope x) (hd : (x == ("__debug__" : Str)) = false) (hcd : (x == ("__classdict__" : Str)) = false) : DS X C (.Return (some (.Name x p)) pos) (sRetV i) :=
  PS.imp (ps_ret (pe_var hN hv hd hcd)) fun D σ H ⟨ρ, F, o, s, e, w⟩ => by
    unfold sRetV at e
    split at e
    · rename_i rv er
      cases e
      obtain ⟨v, h1, h2⟩ := s.at_ i rv er
      exact ⟨v, h1, w v σ H F .refl (s.forget i) (RvNew.out (H₀ := H) (H := H) (F := F) s h2)⟩
    · cases e
def sIf (c : BM) (a b : SM) : SM := sb c fun ρ t => if t = true then a ρ else b ρ
theorem DS.ite {c : Expr} {a b : List Stmt} {bm : BM} {m1 m2 : SM} (hc : DB X C c bm) (ha : DSs X C a m1) (hb : DSs X C b m2) : DS X C (.If c a b pos) (sIf bm m1 m2) := PS.imp (ps_if hc ha hb) fun D σ H q => by
  refine st_B q fun ρ F t o s _ e w H' F' g => ?_
  cases t with
  | true => exact ⟨ρ, F', o, g.sr, e, w.kp g.kp⟩
  | false => exact ⟨ρ, F', o, g.sr, e, w.kp g.kp⟩
/-! ### while -/
def mWhile (c : BM) (b : SM) : Nat → SM
  | 0 => fun _ => none
  | n + 1 => sb c fun ρ t => if t = true then (match b ρ with
      | some (.nx ρ') => mWhile c b n ρ'
      | some (.ct ρ') => mWhile c b n ρ'
      | some (.bk ρ') => some (.nx ρ')
      | r => r) else some (.nx ρ)
def sWhile (c : BM) (b : SM) : SM := mWhile c b 1000
theorem DS.while {c : Expr} {a : List Stmt} {bm : BM} {m1 : SM} (hp : PassesOwn (model X.prog X.w) X.A X.env X.xe) (hc : DB X C c bm) (ha : DSs X C a m1) : DS X C (.While c a [] pos) (sWhile bm m1) := PS.imp (ps_while hp hc ha) fun D σ H q => by
  refine ⟨fun n σ' H' => ∃ ρ F o, SR C H' F σ' ρ ∧ mWhile bm m1 n ρ = some o ∧ Wo C X.mg D o H' F, ⟨1000, q⟩, fun n σ' H' q => ?_⟩
  cases n with
  | zero =>
    obtain ⟨ρ, F, o, s, e, w⟩ := q
    cases e
  | succ n =>
    refine st_B q fun ρ F t o s _ e w H2 F2 g => ?_
    have w2 := w.kp g.kp
    cases t with
    | false => cases e; exact w2 σ' H2 F2 .refl g.sr
    | true =>
      rw [if_pos rfl] at e
      show ∃ N : L2.St → Hp → Prop, _
      refine ⟨fun σ3 H3 => ∃ ρ F o, SR C H3 F σ3 ρ ∧ mWhile bm m1 n ρ = some o ∧ Wo C X.mg D o H3 F, fun σ3 H3 h => ⟨n, Nat.lt_succ_self n, h⟩, ?_⟩
      cases hb : m1 ρ with
      | none => rw [hb] at e; cases e
      | some ob =>
        rw [hb] at e
        refine ⟨ρ, F2, ob, g.sr, hb, ?_⟩
        cases ob with
        | nx ρ' => exact fun σ4 H4 F4 k4 s4 => ⟨ρ', F4, o, s4, e, w2.kp k4⟩
        | ct ρ' => exact fun σ4 H4 F4 k4 s4 => ⟨ρ', F4, o, s4, e, w2.kp k4⟩
        | bk ρ' => cases e; exact fun σ4 H4 F4 k4 s4 => w2 σ4 H4 F4 k4 s4
        | rt rv ρ' => cases e; exact w2
        | ex x ρ' => cases e; exact w2
end
end TS
/-! T9: targets, what is walked, for -/
namespace TS
open PySem PySem.Spec PyProof.Rows L2

/-! ### targets -/
inductive Tgt where
  | one (i : Nat)
  | tup (is : List Nat)
def gNs : List Nat → TGs
  | [] => gNil
  | i :: is => gCons (gName i) (gNs is)
def gOf (K : Frg) : Tgt → TG
  | .one i => gName i
  | .tup is => gTup K is.length (gNs is)
def DG (X : Cx) (tg : Expr) (t : Tgt) : Prop := PG X tg (gOf X.K t)
def DGs (X : Cx) (tg : List Expr) (is : List Nat) : Prop := PGs X tg (gNs is)
section
variable {X : Cx} {C : Cc}
theorem DG.one {i : Nat} {x : Str} {pos : Pos} (hN : X.N.Nodup) (hi : X.N[i]? = some x) (hx : Loc X.env.scope x) (hf : X.fn x = true ∨ X.env.scope.names.lookup x = some .local := by first | exact .inl rfl | exact .inr rfl | assumption) : DG X (.Name x pos) (.one i) := pg_name hN hi hx hf
theorem DGs.nil : DGs X [] [] := pgs_nil
theorem DGs.cons {i : Nat} {x : Str} {pos : Pos} {es : List Expr} {is : List Nat} (hN : X.N.Nodup) (hi : X.N[i]? = some x) (hx : Loc X.env.scope x) (h : DGs X es is) (hf : X.fn x = true ∨ X.env.scope.names.lookup x = some .local := by first | exact .inl rfl | exact .inr rfl | assumption)
    (hs : (assignEach (.Name x pos :: es) X.env).map (·.2) = assign (.Name x pos) X.env :: (assignEach es X.env).map (·.2) := by rfl) : DGs X (.Name x pos :: es) (i :: is) := pgs_cons (pg_name hN hi hx hf) h hs
theorem DG.tup {es : List Expr} {k : Nat} {is : List Nat} {pos : Pos} (hc : X.calm = true) (h : DGs X es is) (hn : (assignEach es X.env).length = is.length := by rfl) (hst : (assignEach es X.env).findIdx? (·.1) = none := by rfl) : DG X (.Tuple es k pos) (.tup is) := pg_tup hc h hn hst
end
def setNs : List Nat → List D → Regs → Option Regs
  | [], [], ρ => some ρ
  | i :: is, d :: ds, ρ => setNs is ds (ρ.set i (some (.val d)))
  | _, _, _ => none
def tgtM : Tgt → D → Regs → Option Regs
  | .one i, d, ρ => some (ρ.set i (some (.val d)))
  | .tup is, .tuple ds, ρ => setNs is ds ρ
  | _, _, _ => none
def Tgt.slots : Tgt → List Nat
  | .one i => [i]
  | .tup is => is
section
variable {C : Cc} {H : Hp} {F : Addr → Prop} {σ : L2.St} {ρ ρ' : Regs}
theorem wipe_set {σ : L2.St} {i : Nat} {v : Option V} : ∀ {vs : List Nat}, i ∈ vs → wipe (σ.set i v) vs = wipe σ vs := by
  intro vs h
  apply List.ext_getElem?
  intro j
  by_cases hj : j ∈ vs
  · have z : ∀ τ : L2.St, τ.length = σ.length → (wipe τ vs)[j]? = (wipe σ vs)[j]? := fun τ hl => by
      by_cases hb : j < σ.length
      · have e1 : (wipe τ vs)[j]? = some none := by
          cases q : (wipe τ vs)[j]? with
          | none => rw [List.getElem?_eq_none_iff, wipe_length] at q; omega
          | some u =>
            cases u with
            | none => rfl
            | some x => exact absurd hj (wipe_some q).2
        have e2 : (wipe σ vs)[j]? = some none := by
          cases q : (wipe σ vs)[j]? with
          | none => rw [List.getElem?_eq_none_iff, wipe_length] at q; omega
          | some u =>
            cases u with
            | none => rfl
            | some x => exact absurd hj (wipe_some q).2
        rw [e1, e2]
      · rw [List.getElem?_eq_none (by rw [wipe_length]; omega), List.getElem?_eq_none (by rw [wipe_length]; omega)]
    exact z _ (by simp)
  · rw [wipe_out hj, wipe_out hj, List.getElem?_set_ne]
    rintro rfl; exact hj h
theorem gNs_ok {is : List Nat} : ∀ {vs : List V} {ds : List D} {σ : L2.St} {ρ ρ' : Regs} {Q : L2.St → Hp → Prop}, SR C H F σ ρ → RpA C.w C.K H F vs ds → setNs is ds ρ = some ρ' → (∀ i ∈ is, C.fx i = none) →
    (∀ σ', SR C H F σ' ρ' → (∀ us, (∀ i ∈ is, i ∈ us) → wipe σ' us = wipe σ us) → Q σ' H) → gNs is vs σ H Q := by
  induction is with
  | nil =>
    intro vs ds σ ρ ρ' Q s x e hf q
    cases x with
    | nil => cases e; exact ⟨rfl, q σ s fun _ _ => rfl⟩
    | cons _ _ => cases e
  | cons i is ih =>
    intro vs ds σ ρ ρ' Q s x e hf q
    cases x with
    | nil => cases e
    | cons x1 x2 =>
      refine ⟨_, _, rfl, ?_⟩
      refine ih (s.vals x1 (hf i (List.mem_cons_self ..))) x2 e (fun j hj => hf j (List.mem_cons_of_mem _ hj)) fun σ' s' hw => q σ' s' fun us hu => ?_
      rw [hw us fun j hj => hu j (List.mem_cons_of_mem _ hj)]
      exact wipe_set (hu i (List.mem_cons_self ..))
theorem gOf_ok {K : Frg} {t : Tgt} {v : V} {d : D} {Q : L2.St → Hp → Prop} (hK : C.K = K) (s : SR C H F σ ρ) (x : Rp C.w C.K H F v d) (e : tgtM t d ρ = some ρ') (hf : ∀ i ∈ t.slots, C.fx i = none)
    (q : ∀ σ', SR C H F σ' ρ' → (∀ us, (∀ i ∈ t.slots, i ∈ us) → wipe σ' us = wipe σ us) → Q σ' H) : gOf K t v σ H Q := by
  cases t with
  | one i =>
    cases e
    exact q _ (s.vals x (hf i (List.mem_cons_self ..))) fun us hu => wipe_set (hu i (List.mem_cons_self ..))
  | tup is =>
    cases d <;> try cases e
    cases x with
    | tup h1 h2 =>
      refine ⟨_, _, rfl, hK ▸ h1, ?_, gNs_ok s h2 e hf q⟩
      have : ∀ {is : List Nat} {ds : List D} {ρ ρ' : Regs}, setNs is ds ρ = some ρ' → ds.length = is.length := by
        intro is
        induction is with
        | nil => intro ds ρ ρ' e; cases ds with
          | nil => rfl
          | cons _ _ => cases e
        | cons i is ih => intro ds ρ ρ' e; cases ds with
          | nil => cases e
          | cons d ds => simp [ih (show setNs is ds _ = _ from e)]
      rw [h2.length, this e]
end
/-! ### what is walked -/
/-- the walk yields the data one behind another -/
def ItOk (C : Cc) (J : It) : Nat → Hp → (Addr → Prop) → List D → Prop
  | i, H, F, [] => ∀ H' F', Kp H F H' F' → J.stop i H'
  | i, H, F, d :: ds => ∀ H' F', Kp H F H' F' → J.go i H' ∧ ∀ x H'', J.yld i H' x H'' → Le H' H'' ∧ Rp C.w C.K H'' F' x d ∧ ItOk C J (i + 1) H'' F' ds
theorem ItOk.kp {C : Cc} {J : It} {i : Nat} {H H' : Hp} {F F' : Addr → Prop} {ds : List D} (k : Kp H F H' F') (h : ItOk C J i H F ds) : ItOk C J i H' F' ds := by
  cases ds with
  | nil => exact fun H2 F2 k2 => h H2 F2 (k.trans k2)
  | cons d ds => exact fun H2 F2 k2 => h H2 F2 (k.trans k2)
def tI (C : Cc) (mg : Str → Option Value) (m : LM) : TI := fun σ H R => tM C mg m (fun σ ρ H F ds => ∀ J H' F', Gr C σ ρ H F H' F' → ItOk C J 0 H' F' ds → R J H') σ H
def DI (X : Cx) (C : Cc) (tg e : Expr) (m : LM) : Prop := PI X tg e (tI C X.mg m)
theorem PI.imp {X : Cx} {tg e : Expr} {t t' : TI} (h : PI X tg e t) (i : ∀ σ H Q, t' σ H Q → t σ H Q) : PI X tg e t' := ⟨fun pins s σ H R I q => h.run pins s σ H R I (i σ H R q)⟩
section
variable {X : Cx} {C : Cc} {tg e : Expr} {p pos : Pos}
theorem ItOk.lst {K : Frg} {C : Cc} {a : Addr} {xs : List V} (hK : C.K = K) : ∀ {ds : List D} {i : Nat} {H : Hp} {F : Addr → Prop}, LsOk C.K H F a xs → RpA C.w C.K H F (xs.drop i) ds → ItOk C (Itl K a) i H F ds
  | [], i, H, F, l, x => fun H' F' k => ⟨xs, hK ▸ (l.mono k.keep k.ff).sq, by
      have := x.length
      simp at this
      omega⟩
  | d :: ds, i, H, F, l, x => fun H' F' k => by
    have l' := l.mono k.keep k.ff
    have x' := k.rpA (C := C) x
    cases hd : xs.drop i with
    | nil => rw [hd] at x'; cases x'
    | cons y ys =>
      rw [hd] at x'
      have hi : xs[i]? = some y := by
        have := congrArg List.head? hd
        rwa [List.head?_drop] at this
      have hr : xs.drop (i + 1) = ys := by rw [← List.drop_drop, hd]; rfl
      cases x' with
      | cons x1 x2 =>
        refine ⟨⟨xs, y, hK ▸ l'.sq, hi⟩, fun u H'' hy => ?_⟩
        obtain ⟨rfl, hy⟩ := hy
        have e := hy xs (hK ▸ l'.sq)
        rw [hi] at e; cases e
        exact ⟨Le.refl, x1, ItOk.lst hK l' (by rw [hr]; exact x2)⟩
theorem ItOk.tup {K : Frg} {C : Cc} {a : Addr} {xs : List V} (hK : C.K = K) : ∀ {ds : List D} {i : Nat} {H : Hp} {F : Addr → Prop}, SqT C.K H a xs → RpA C.w C.K H F (xs.drop i) ds → ItOk C (Itt K a) i H F ds
  | [], i, H, F, l, x => fun H' F' k => ⟨xs, hK ▸ (SqT.mono k.keep.tup k.keep.frz l), by
      have := x.length
      simp at this
      omega⟩
  | d :: ds, i, H, F, l, x => fun H' F' k => by
    have l' := SqT.mono k.keep.tup k.keep.frz l
    have x' := k.rpA (C := C) x
    cases hd : xs.drop i with
    | nil => rw [hd] at x'; cases x'
    | cons y ys =>
      rw [hd] at x'
      have hi : xs[i]? = some y := by
        have := congrArg List.head? hd
        rwa [List.head?_drop] at this
      have hr : xs.drop (i + 1) = ys := by rw [← List.drop_drop, hd]; rfl
      cases x' with
      | cons x1 x2 =>
        refine ⟨⟨xs, y, hK ▸ l', hi⟩, fun u H'' hy => ?_⟩
        obtain ⟨rfl, hy⟩ := hy
        have e := hy xs (hK ▸ l')
        rw [hi] at e; cases e
        exact ⟨Le.refl, x1, ItOk.tup hK l' (by rw [hr]; exact x2)⟩
/-- over a list that stays -/
def iL (m : OM) : LM := fun ρ => eb (m ρ) fun d => match d with
  | .list ds => ok ds
  | _ => none
def iT (m : OM) : LM := fun ρ => eb (m ρ) fun d => match d with
  | .tuple ds => ok ds
  | _ => none
theorem ei_V {mg : Str → Option Value} {m : OM} {f : D → ER (List D)} {σ : L2.St} {H : Hp} {R : V → Hp → Prop} {Y : L2.St → Regs → Hp → (Addr → Prop) → List D → Prop} (h : tM C mg (fun ρ => eb (m ρ) f) Y σ H)
    (hz : ∀ ρ F d, SR C H F σ ρ → (∀ b, f d = some (.inl b) → Y σ ρ H F b) → (∀ x, f d = some (.inr x) → XWant C mg σ ρ H F x) → (∃ r, f d = some r) → ∀ v H' F', Gr C σ ρ H F H' F' → Rp C.w C.K H' F' v d → R v H') : tV C mg m σ H R :=
  eb_V (f := fun _ => f) h rfl hz
theorem DI.list (k : Cok X C) {m : OM} (h : DV X C e m) : DI X C tg e (iL m) := PI.imp (pi_list h) fun σ H R q => by
  refine ei_V q fun ρ F d s hy hx hr v H' F' g x => ?_
  obtain ⟨r, hr⟩ := hr
  cases d <;> try cases hr
  cases x with
  | lst h1 h2 => exact ⟨_, rfl, ⟨_, k.K ▸ h1.sq⟩, hy _ rfl _ H' F' g (ItOk.lst k.K h1 h2)⟩
theorem DI.tuple (k : Cok X C) {m : OM} (h : DV X C e m) : DI X C tg e (iT m) := PI.imp (pi_tup h) fun σ H R q => by
  refine ei_V q fun ρ F d s hy hx hr v H' F' g x => ?_
  obtain ⟨r, hr⟩ := hr
  cases d <;> try cases hr
  cases x with
  | tup h1 h2 => exact ⟨_, rfl, ⟨_, k.K ▸ h1⟩, hy _ rfl _ H' F' g (ItOk.tup k.K h1 h2)⟩
/-- range -/
def rngD (lo : Int) : Nat → List D
  | 0 => []
  | n + 1 => .int lo :: rngD (lo + 1) n
theorem ItOk.rng {C : Cc} {lo : Int} {N : Nat} : ∀ {n i : Nat} {H : Hp} {F : Addr → Prop}, i + n = N → ItOk C (Itr lo N) i H F (rngD (lo + i) n)
  | 0, i, H, F, h => fun H' F' k => by show N ≤ i; omega
  | n + 1, i, H, F, h => fun H' F' k => ⟨by show i < N; omega, fun x H'' hy => by
      obtain ⟨rfl, rfl⟩ := hy
      refine ⟨Le.refl, .int _, ?_⟩
      have := ItOk.rng (C := C) (lo := lo) (N := N) (n := n) (i := i + 1) (H := H'') (F := F') (by omega)
      have e : lo + ((i + 1 : Nat) : Int) = lo + (i : Nat) + 1 := by push_cast; omega
      rwa [e] at this⟩
def iR1 (l : LM) : LM := fun ρ => eb (l ρ) fun ds => match ds with
  | [.int j] => if -1000 ≤ j ∧ j < 1000 then ok (rngD 0 j.toNat) else none
  | _ => none
def iR2 (l : LM) : LM := fun ρ => eb (l ρ) fun ds => match ds with
  | [.int i, .int j] => if -1000 ≤ i ∧ i < 1000 ∧ -1000 ≤ j ∧ j < 1000 then ok (rngD i (j - i).toNat) else none
  | _ => none
theorem ei_L {mg : Str → Option Value} {m : LM} {f : List D → ER (List D)} {σ : L2.St} {H : Hp} {R : List V → Hp → Prop} {Y : L2.St → Regs → Hp → (Addr → Prop) → List D → Prop} (h : tM C mg (fun ρ => eb (m ρ) f) Y σ H)
    (hz : ∀ ρ F d, SR C H F σ ρ → (∀ b, f d = some (.inl b) → Y σ ρ H F b) → (∀ x, f d = some (.inr x) → XWant C mg σ ρ H F x) → (∃ r, f d = some r) → ∀ v H' F', Gr C σ ρ H F H' F' → RpA C.w C.K H' All v d → R v H') : tL C mg m σ H R :=
  eb_L (f := fun _ => f) h rfl hz
theorem ei_LV {mg : Str → Option Value} {m : LM} {f : List D → ER (List D)} {σ : L2.St} {H : Hp} {R : List V → Hp → Prop} {Y : L2.St → Regs → Hp → (Addr → Prop) → List D → Prop} (h : tM C mg (fun ρ => eb (m ρ) f) Y σ H)
    (hz : ∀ ρ F d, SR C H F σ ρ → (∀ b, f d = some (.inl b) → Y σ ρ H F b) → (∀ x, f d = some (.inr x) → XWant C mg σ ρ H F x) → (∃ r, f d = some r) → ∀ v H' F', Gr C σ ρ H F H' F' → RpA C.w C.K H' F' v d → R v H') : tLV C mg m σ H R :=
  eb_LV (f := fun _ => f) h rfl hz
theorem DI.range1 {a : Expr} {l : LM} (hg : Gl X "range") (hm : X.mg "range" = none) (ha : DL X C [a] l) (hs : starEach [a] X.env = [(false, eval a X.env)] := by rfl) : DI X C tg (.Call (.Name "range" p) [a] [] pos) (iR1 l) :=
  PI.imp (pi_range1 hg hm ha hs) fun σ H R q => by
    refine ei_L q fun ρ F ds s hy hx hr vs H' F' g x => ?_
    obtain ⟨r, hr⟩ := hr
    cases x with
    | nil => cases hr
    | cons x1 x2 =>
      cases x2 with
      | cons _ _ => rename_i d _ _ _ _ _ _; cases d <;> cases hr
      | nil =>
        rename_i v d
        cases x1 <;> try cases hr
        rename_i j
        by_cases hj : -1000 ≤ j ∧ j < 1000
        · simp only [if_pos hj] at hy
          exact ⟨j, rfl, by omega, by omega, hy _ rfl _ H' F' g (by simpa using ItOk.rng (C := C) (lo := 0) (N := j.toNat) (n := j.toNat) (i := 0) (H := H') (F := F') (by omega))⟩
        · simp only [if_neg hj] at hr; cases hr
theorem DI.range2 {a b : Expr} {l : LM} (hg : Gl X "range") (hm : X.mg "range" = none) (ha : DL X C [a, b] l) (hs : starEach [a, b] X.env = [(false, eval a X.env), (false, eval b X.env)] := by rfl) (hs2 : starEach [b] X.env = [(false, eval b X.env)] := by rfl) : DI X C tg (.Call (.Name "range" p) [a, b] [] pos) (iR2 l) :=
  PI.imp (pi_range2 hg hm ha hs hs2) fun σ H R q => by
    refine ei_L q fun ρ F ds s hy hx hr vs H' F' g x => ?_
    obtain ⟨r, hr⟩ := hr
    split at hr
    · rename_i i j
      cases x with
      | cons x1 x2 =>
        cases x2 with
        | cons x2 x3 =>
          cases x3
          cases x1
          cases x2
          by_cases hj : -1000 ≤ i ∧ i < 1000 ∧ -1000 ≤ j ∧ j < 1000
          · simp only [if_pos hj] at hy
            exact ⟨i, j, rfl, ⟨by omega, by omega, by omega, by omega⟩, hy _ rfl _ H' F' g (by simpa using ItOk.rng (C := C) (lo := i) (N := (j - i).toNat) (n := (j - i).toNat) (i := 0) (H := H') (F := F') (by omega))⟩
          · simp only [if_neg hj] at hr; cases hr
    · cases hr
/-- enumerate of a list -/
def enD : Nat → List D → List D
  | _, [] => []
  | i, d :: ds => .tuple [.int i, d] :: enD (i + 1) ds
theorem Le.kp {H H' : Hp} {F : Addr → Prop} (h : Le H H') : Kp H F H' F := ⟨h.keep, fun _ z => z⟩
theorem ItOk.enm {K : Frg} {C : Cc} {a : Addr} {xs : List V} (hK : C.K = K) : ∀ {ds : List D} {i : Nat} {H : Hp} {F : Addr → Prop}, LsOk C.K H F a xs → RpA C.w C.K H F (xs.drop i) ds → ItOk C (Ite K a) i H F (enD i ds)
  | [], i, H, F, l, x => fun H' F' k => ⟨xs, hK ▸ (l.mono k.keep k.ff).sq, by
      have := x.length
      simp at this
      omega⟩
  | d :: ds, i, H, F, l, x => fun H' F' k => by
    have l' := l.mono k.keep k.ff
    have x' := k.rpA (C := C) x
    cases hd : xs.drop i with
    | nil => rw [hd] at x'; cases x'
    | cons y ys =>
      rw [hd] at x'
      have hi : xs[i]? = some y := by
        have := congrArg List.head? hd
        rwa [List.head?_drop] at this
      have hr : xs.drop (i + 1) = ys := by rw [← List.drop_drop, hd]; rfl
      cases x' with
      | cons x1 x2 =>
        refine ⟨⟨xs, y, hK ▸ l'.sq, hi⟩, fun u H'' hy => ?_⟩
        obtain ⟨T, z, rfl, hT, rfl, hy⟩ := hy
        have e := hy xs (hK ▸ l'.sq)
        rw [hi] at e; cases e
        have k2 : Kp H' F' (upd H' T (.tup [.int (i : Nat), y])) F' := (Le.new hT).kp
        exact ⟨Le.new hT, .tup (SqT.of upd_same) (.cons (.int _) (.cons (k2.rp (C := C) x1) .nil)), ItOk.enm hK (l'.mono k2.keep k2.ff) (by rw [hr]; exact k2.rpA (C := C) x2)⟩
def iEn (l : LM) : LM := fun ρ => eb (l ρ) fun ds => match ds with
  | [.list xs] => ok (enD 0 xs)
  | _ => none
theorem DI.enum (k : Cok X C) {elts : List Expr} {kk : Nat} {tpos : Pos} {l : LM} (hg : Gl X "enumerate") (hm : X.mg "enumerate" = none) (ha : DLV X C [e] l) (hs : starEach [e] X.env = [(false, eval e X.env)] := by rfl) :
    DI X C (.Tuple elts kk tpos) (.Call (.Name "enumerate" p) [e] [] pos) (iEn l) :=
  PI.imp (pi_enum hg hm ha hs) fun σ H R q => by
    refine ei_LV q fun ρ F ds s hy hx hr vs H' F' g x => ?_
    obtain ⟨r, hr⟩ := hr
    split at hr
    · rename_i xs
      cases x with
      | cons x1 x2 =>
        cases x2
        cases x1 with
        | lst h1 h2 => exact ⟨_, _, rfl, k.K ▸ h1.sq, hy _ rfl _ H' F' g (ItOk.enm k.K h1 h2)⟩
    · cases hr
/-- zip -/
def zpD : List D → List D → List D
  | d :: ds, e :: es => .tuple [d, e] :: zpD ds es
  | _, _ => []
theorem ItOk.zpl {K : Frg} {C : Cc} {a b : Addr} {xs ys : List V} (hK : C.K = K) : ∀ {ds es : List D} {i : Nat} {H : Hp} {F : Addr → Prop}, LsOk C.K H F a xs → LsOk C.K H F b ys → RpA C.w C.K H F (xs.drop i) ds → RpA C.w C.K H F (ys.drop i) es → ItOk C (Itz K a b) i H F (zpD ds es)
  | [], es, i, H, F, l, l2, x, x2 => by
    show ItOk C _ i H F []
    exact fun H' F' k => ⟨xs, ys, hK ▸ (l.mono k.keep k.ff).sq, hK ▸ (l2.mono k.keep k.ff).sq, .inl (by
      have := x.length
      simp at this
      omega)⟩
  | d :: ds, [], i, H, F, l, l2, x, x2 => by
    show ItOk C _ i H F []
    exact fun H' F' k => ⟨xs, ys, hK ▸ (l.mono k.keep k.ff).sq, hK ▸ (l2.mono k.keep k.ff).sq, .inr (by
      have := x2.length
      simp at this
      omega)⟩
  | d :: ds, e :: es, i, H, F, l, l2, x, z => fun H' F' k => by
    have l' := l.mono k.keep k.ff
    have l2' := l2.mono k.keep k.ff
    have x' := k.rpA (C := C) x
    have z' := k.rpA (C := C) z
    cases hd : xs.drop i with
    | nil => rw [hd] at x'; cases x'
    | cons y yr =>
      cases hd2 : ys.drop i with
      | nil => rw [hd2] at z'; cases z'
      | cons u ur =>
        rw [hd] at x'
        rw [hd2] at z'
        have hi : xs[i]? = some y := by
          have := congrArg List.head? hd
          rwa [List.head?_drop] at this
        have hi2 : ys[i]? = some u := by
          have := congrArg List.head? hd2
          rwa [List.head?_drop] at this
        have hr : xs.drop (i + 1) = yr := by rw [← List.drop_drop, hd]; rfl
        have hr2 : ys.drop (i + 1) = ur := by rw [← List.drop_drop, hd2]; rfl
        cases x' with
        | cons x1 x2 =>
          cases z' with
          | cons z1 z2 =>
            refine ⟨⟨xs, ys, y, u, hK ▸ l'.sq, hK ▸ l2'.sq, hi, hi2⟩, fun t H'' hy => ?_⟩
            obtain ⟨T, y', u', rfl, hT, rfl, hy, hy2⟩ := hy
            have e := hy xs (hK ▸ l'.sq)
            rw [hi] at e; cases e
            have e := hy2 ys (hK ▸ l2'.sq)
            rw [hi2] at e; cases e
            have k2 : Kp H' F' (upd H' T (.tup [y, u])) F' := (Le.new hT).kp
            exact ⟨Le.new hT, .tup (SqT.of upd_same) (.cons (k2.rp (C := C) x1) (.cons (k2.rp (C := C) z1) .nil)), ItOk.zpl hK (l'.mono k2.keep k2.ff) (l2'.mono k2.keep k2.ff) (by rw [hr]; exact k2.rpA (C := C) x2) (by rw [hr2]; exact k2.rpA (C := C) z2)⟩
theorem ItOk.zpt {K : Frg} {C : Cc} {a b : Addr} {xs ys : List V} (hK : C.K = K) : ∀ {ds es : List D} {i : Nat} {H : Hp} {F : Addr → Prop}, SqT C.K H a xs → SqT C.K H b ys → RpA C.w C.K H F (xs.drop i) ds → RpA C.w C.K H F (ys.drop i) es → ItOk C (RZ.ItzT K a b) i H F (zpD ds es)
  | [], es, i, H, F, l, l2, x, x2 => by
    show ItOk C _ i H F []
    exact fun H' F' k => ⟨xs, ys, hK ▸ (SqT.mono k.keep.tup k.keep.frz l), hK ▸ (SqT.mono k.keep.tup k.keep.frz l2), .inl (by
      have := x.length
      simp at this
      omega)⟩
  | d :: ds, [], i, H, F, l, l2, x, x2 => by
    show ItOk C _ i H F []
    exact fun H' F' k => ⟨xs, ys, hK ▸ (SqT.mono k.keep.tup k.keep.frz l), hK ▸ (SqT.mono k.keep.tup k.keep.frz l2), .inr (by
      have := x2.length
      simp at this
      omega)⟩
  | d :: ds, e :: es, i, H, F, l, l2, x, z => fun H' F' k => by
    have l' := SqT.mono k.keep.tup k.keep.frz l
    have l2' := SqT.mono k.keep.tup k.keep.frz l2
    have x' := k.rpA (C := C) x
    have z' := k.rpA (C := C) z
    cases hd : xs.drop i with
    | nil => rw [hd] at x'; cases x'
    | cons y yr =>
      cases hd2 : ys.drop i with
      | nil => rw [hd2] at z'; cases z'
      | cons u ur =>
        rw [hd] at x'
        rw [hd2] at z'
        have hi : xs[i]? = some y := by
          have := congrArg List.head? hd
          rwa [List.head?_drop] at this
        have hi2 : ys[i]? = some u := by
          have := congrArg List.head? hd2
          rwa [List.head?_drop] at this
        have hr : xs.drop (i + 1) = yr := by rw [← List.drop_drop, hd]; rfl
        have hr2 : ys.drop (i + 1) = ur := by rw [← List.drop_drop, hd2]; rfl
        cases x' with
        | cons x1 x2 =>
          cases z' with
          | cons z1 z2 =>
            refine ⟨⟨xs, ys, y, u, hK ▸ l', hK ▸ l2', hi, hi2⟩, fun t H'' hy => ?_⟩
            obtain ⟨T, y', u', rfl, hT, rfl, hy, hy2⟩ := hy
            have e := hy xs (hK ▸ l')
            rw [hi] at e; cases e
            have e := hy2 ys (hK ▸ l2')
            rw [hi2] at e; cases e
            have k2 : Kp H' F' (upd H' T (.tup [y, u])) F' := (Le.new hT).kp
            exact ⟨Le.new hT, .tup (SqT.of upd_same) (.cons (k2.rp (C := C) x1) (.cons (k2.rp (C := C) z1) .nil)), ItOk.zpt hK (SqT.mono k2.keep.tup k2.keep.frz l') (SqT.mono k2.keep.tup k2.keep.frz l2') (by rw [hr]; exact k2.rpA (C := C) x2) (by rw [hr2]; exact k2.rpA (C := C) z2)⟩
def iZp (l : LM) : LM := fun ρ => eb (l ρ) fun ds => match ds with
  | [.list xs, .list ys] => ok (zpD xs ys)
  | [.tuple xs, .tuple ys] => ok (zpD xs ys)
  | _ => none
theorem DI.zip (k : Cok X C) {e2 : Expr} {elts : List Expr} {kk : Nat} {tpos : Pos} {l : LM} (hg : Gl X "zip") (hm : X.mg "zip" = none) (ha : DLV X C [e, e2] l) (hs : starEach [e, e2] X.env = (false, eval e X.env) :: starEach [e2] X.env := by rfl) (hpl : (backTo pos (starEach [e2] X.env)).any (·.1) = false := by rfl) :
    DI X C (.Tuple elts kk tpos) (.Call (.Name "zip" p) [e, e2] [] pos) (iZp l) :=
  PI.imp (RZ.pi_zipA hg hm ha hs hpl) fun σ H R q => by
    refine ei_LV q fun ρ F ds s hy hx hr vs H' F' g x => ?_
    obtain ⟨r, hr⟩ := hr
    split at hr
    · rename_i xs ys
      cases x with
      | cons x1 x2 =>
        cases x2 with
        | cons x2 x3 =>
          cases x3
          cases x1 with
          | lst h1 h2 =>
            cases x2 with
            | lst h3 h4 => exact ⟨_, _, _, _, rfl, .inl ⟨k.K ▸ h1.sq, k.K ▸ h3.sq, hy _ rfl _ H' F' g (ItOk.zpl k.K h1 h3 h2 h4)⟩⟩
    · rename_i xs ys
      cases x with
      | cons x1 x2 =>
        cases x2 with
        | cons x2 x3 =>
          cases x3
          cases x1 with
          | tup h1 h2 =>
            cases x2 with
            | tup h3 h4 => exact ⟨_, _, _, _, rfl, .inr ⟨k.K ▸ h1, k.K ▸ h3, hy _ rfl _ H' F' g (ItOk.zpt k.K h1 h3 h2 h4)⟩⟩
    · cases hr
end
/-! ### for -/
def mFor (t : Tgt) (b : SM) : List D → SM
  | [] => fun ρ => some (.nx ρ)
  | d :: ds => fun ρ => match tgtM t d ρ with
    | none => none
    | some ρ1 => match b ρ1 with
      | some (.nx ρ') => mFor t b ds ρ'
      | some (.ct ρ') => mFor t b ds ρ'
      | some (.bk ρ') => some (.nx ρ')
      | r => r
def sFor (t : Tgt) (it : LM) (b : SM) : SM := sb it fun ρ ds => mFor t b ds ρ
theorem st_I {C : Cc} {mg : Str → Option Value} {En : Ends} {σ : L2.St} {H : Hp} {m : LM} {f : Regs → List D → Option Out} {R : It → Hp → Prop} (h : tSt C mg (sb m f) En σ H)
    (hz : ∀ ρ F ds o, SR C H F σ ρ → m ρ = some (.inl ds) → f ρ ds = some o → Wo C mg En o H F → ∀ J H' F', Gr C σ ρ H F H' F' → ItOk C J 0 H' F' ds → R J H') : tI C mg m σ H R := st_M h hz
theorem DS.for {X : Cx} {C : Cc} {tg iter : Expr} {body : List Stmt} {pos : Pos} {t : Tgt} {l : LM} {m1 : SM} (k : Cok X C) (hp : PassesOwn (model X.prog X.w) X.A X.env X.xe) (hc : X.calm = true) (hi : DI X C tg iter l) (hg : DG X tg t) (hb : DSs X C body m1) (hf : ∀ i ∈ t.slots, C.fx i = none := by intro i hi; first | rfl | (simp only [Tgt.slots, List.mem_cons, List.not_mem_nil, or_false] at hi; subst hi; rfl))
    (hs : ∀ x, foldedSetIterable iter X.env x = pure x := by intro _; rfl) : DS X C (.For tg iter body [] pos) (sFor t l m1) := PS.imp (ps_for hp hc hi hg hb hs) fun D σ H q => by
  refine st_I q fun ρ F ds o s _ e w J H' F' g it => ?_
  refine ⟨fun i m σ' H' => ∃ ρ F ds o, m = ds.length ∧ SR C H' F σ' ρ ∧ mFor t m1 ds ρ = some o ∧ Wo C X.mg D o H' F ∧ ItOk C J i H' F ds, ⟨ds.length, ρ, F', ds, o, rfl, g.sr, e, w.kp g.kp, it⟩, ?_⟩
  rintro i m σ2 H2 ⟨ρ2, F2, ds2, o2, rfl, s2, e2, w2, it2⟩
  cases ds2 with
  | nil =>
    cases e2
    exact .inl ⟨it2 H2 F2 .refl, w2 σ2 H2 F2 .refl s2⟩
  | cons d ds2 =>
    obtain ⟨go, nxt⟩ := it2 H2 F2 .refl
    refine .inr ⟨go, fun σ3 H3 => ∃ ρ F o, SR C H3 F σ3 ρ ∧ mFor t m1 ds2 ρ = some o ∧ Wo C X.mg D o H3 F ∧ ItOk C J (i + 1) H3 F ds2, fun σ3 H3 ⟨ρ3, F3, o3, h1, h2, h3, h4⟩ => ⟨ds2.length, Nat.lt_succ_self _, ρ3, F3, ds2, o3, rfl, h1, h2, h3, h4⟩, fun x H3 y => ?_⟩
    obtain ⟨hle, hx, it3⟩ := nxt x H3 y
    have k3 : Kp H2 F2 H3 F2 := hle.kp
    unfold mFor at e2
    cases ht : tgtM t d ρ2 with
    | none => rw [ht] at e2; cases e2
    | some ρ3 =>
      rw [ht] at e2
      refine gOf_ok k.K (s2.le hle) hx ht hf fun σ4 s4 _ => ?_
      cases hb : m1 ρ3 with
      | none => simp only [hb] at e2; cases e2
      | some ob =>
        simp only [hb] at e2
        refine ⟨ρ3, F2, ob, s4, hb, ?_⟩
        have w3 := w2.kp k3
        cases ob with
        | nx ρ' => exact fun σ5 H5 F5 k5 s5 => ⟨ρ', F5, o2, s5, e2, w3.kp k5, it3.kp k5⟩
        | ct ρ' => exact fun σ5 H5 F5 k5 s5 => ⟨ρ', F5, o2, s5, e2, w3.kp k5, it3.kp k5⟩
        | bk ρ' => cases e2; exact fun σ5 H5 F5 k5 s5 => w3 σ5 H5 F5 k5 s5
        | rt rv ρ' => cases e2; exact w3
        | ex x ρ' => cases e2; exact w3
end TS
/-! T10: list comprehensions -/
namespace TS
open PySem PySem.Spec PyProof.Rows L2

def wipeR (ρ : Regs) : List Nat → Regs
  | [] => ρ
  | v :: vs => (wipeR ρ vs).set v none
/-- no exception leaves a block -/
def noW : WX := fun _ _ _ _ => False
theorem noW_takes {X : Cx} : Takes X noW := fun _ _ ⟨_, _, _, _, _, _, _, _, _, _, _, _, _, _, _, _, w⟩ => w.elim
open Classical in
/-- a block's standing -/
noncomputable def blkC (C : Cc) (H : Hp) (F : Addr → Prop) (σ : L2.St) (ρ : Regs) : Cc := ⟨C.w, C.K, fun a => if ∃ i, Own σ ρ i a then none else H a, F, noW, fun _ => none⟩
/-- what a block's derivations may lean on -/
structure Blk (C C' : Cc) : Prop where
  K : C'.K = C.K
  w : C'.w = C.w
  W : C'.W = noW
  fx : ∀ i, C'.fx i = none
theorem Blk.cok {X : Cx} {C C' : Cc} (b : Blk C C') (k : Cok X C) (s : Shared) (H : Hp) (scope : Scope) (ce : Env) (fp : List Addr) : Cok (X.blk s H scope ce fp) C' := ⟨b.K.trans k.K, b.w.trans k.w, k.nd, k.un, by rw [b.W]; exact noW_takes⟩
section
open Classical
variable {C : Cc} {H H' : Hp} {F F' : Addr → Prop} {σ σ' : L2.St} {ρ ρ' : Regs}
theorem blkC_ok : Blk C (blkC C H F σ ρ) := ⟨rfl, rfl, rfl, fun _ => rfl⟩
theorem RvAt.re {C2 : Cc} {v : V} {r : RV} (hw : C2.w = C.w) (hK : C2.K = C.K) (h0 : isOwn r = true → ∀ a, v = .ref a → C2.H0 a = none) (h : RvAt C H F v r) : RvAt C2 H F v r := by
  cases r with
  | val d => show Rp C2.w C2.K H F v d; rw [hw, hK]; exact h
  | ownL ds =>
    obtain ⟨a, xs, e, h1, h2, h3, h4⟩ := h
    exact ⟨a, xs, e, h1, h2, h0 rfl a e, by rw [hw, hK]; exact h4⟩
  | ownD kvs =>
    obtain ⟨a, es, ep, e, h1, h2, h3, h4⟩ := h
    exact ⟨a, es, ep, e, by rw [hw]; exact h1, h2, h0 rfl a e, by rw [hw, hK]; exact h4⟩
/-- into a block -/
theorem SR.blk (s : SR C H F σ ρ) : SR (blkC C H F σ ρ) H F σ ρ := by
  refine ⟨s.len, fun i r e => ?_, s.dist, fun a o e => ?_, fun a h => h, fun a h => .inl h, s.fdom, fun i v e => by cases e⟩
  · obtain ⟨v, h1, h2⟩ := s.at_ i r e
    refine ⟨v, h1, RvAt.re (C := C) (C2 := blkC C H F σ ρ) rfl rfl (fun ho a ea => ?_) h2⟩
    show (if ∃ i, Own σ ρ i a then none else H a) = none
    rw [if_pos ⟨i, ea ▸ h1, r, e, ho⟩]
  · have e : (if ∃ i, Own σ ρ i a then none else H a) = some o := e
    split at e
    · cases e
    · exact e
theorem wipeR_out : ∀ {vs : List Nat} {i : Nat}, i ∉ vs → (wipeR ρ vs)[i]? = ρ[i]?
  | [], _, _ => rfl
  | v :: vs, i, h => by
    unfold wipeR
    rw [List.getElem?_set_ne (by rintro rfl; exact h (List.mem_cons_self ..)), wipeR_out (fun z => h (List.mem_cons_of_mem _ z))]
theorem wipeR_some {i : Nat} {r : RV} : ∀ {vs : List Nat}, (wipeR ρ vs)[i]? = some (some r) → ρ[i]? = some (some r) ∧ i ∉ vs
  | [], h => ⟨h, by simp⟩
  | v :: vs, h => by
    unfold wipeR at h
    by_cases hi : v = i
    · subst hi
      by_cases hv : v < (wipeR ρ vs).length
      · rw [List.getElem?_set_self hv] at h; cases h
      · rw [List.getElem?_eq_none (by simpa using hv)] at h; cases h
    · rw [List.getElem?_set_ne hi] at h
      obtain ⟨h1, h2⟩ := wipeR_some h
      exact ⟨h1, by simp only [List.mem_cons, not_or]; exact ⟨fun e => hi e.symm, h2⟩⟩
theorem wipeR_length : ∀ vs : List Nat, (wipeR ρ vs).length = ρ.length
  | [] => rfl
  | v :: vs => by unfold wipeR; rw [List.length_set, wipeR_length vs]
theorem SR.wipe (s : SR C H F σ ρ) (vs : List Nat) (hf : ∀ i, C.fx i = none) : SR C H F (L2.wipe σ vs) (wipeR ρ vs) := by
  have own : ∀ {j a}, Own (L2.wipe σ vs) (wipeR ρ vs) j a → Own σ ρ j a := fun {j a} ⟨h1, r, h2, h3⟩ => ⟨(wipe_some h1).1, r, (wipeR_some h2).1, h3⟩
  refine ⟨by rw [wipeR_length, wipe_length]; exact s.len, fun i r e => ?_, fun i j a o1 o2 => s.dist i j a (own o1) (own o2), s.h0, s.f0, s.fnew, s.fdom, fun i v e => by rw [hf] at e; cases e⟩
  obtain ⟨e1, e2⟩ := wipeR_some e
  obtain ⟨v, h1, h2⟩ := s.at_ i r e1
  exact ⟨v, by rw [wipe_out e2]; exact h1, h2⟩
theorem wipe_wipe {vs : List Nat} : L2.wipe (L2.wipe σ vs) vs = L2.wipe σ vs := by
  apply List.ext_getElem?
  intro j
  by_cases hj : j ∈ vs
  · by_cases hb : j < σ.length
    · have z : ∀ τ : L2.St, τ.length = σ.length → (L2.wipe τ vs)[j]? = some none := fun τ hl => by
        cases q : (L2.wipe τ vs)[j]? with
        | none => rw [List.getElem?_eq_none_iff, wipe_length] at q; omega
        | some u =>
          cases u with
          | none => rfl
          | some x => exact absurd hj (wipe_some q).2
      rw [z _ (wipe_length ..), z _ rfl]
    · rw [List.getElem?_eq_none (by rw [wipe_length, wipe_length]; omega), List.getElem?_eq_none (by rw [wipe_length]; omega)]
  · rw [wipe_out hj]
/-- the slots vs hold nothing of their own -/
def plainAt (ρ : Regs) (vs : List Nat) : Bool := vs.all fun j => match ρ[j]? with
  | some (some r) => !isOwn r
  | _ => true
theorem plainAt_get {vs : List Nat} {i : Nat} {r : RV} (h : plainAt ρ vs = true) (hi : i ∈ vs) (e : ρ[i]? = some (some r)) : isOwn r = false := by
  have := List.all_eq_true.mp h i hi
  simp only [e] at this
  simpa using this
theorem setNs_out {is : List Nat} : ∀ {ds : List D} {ρ ρ' : Regs} {j : Nat}, setNs is ds ρ = some ρ' → j ∉ is → ρ'[j]? = ρ[j]? := by
  induction is with
  | nil => intro ds ρ ρ' j e h; cases ds with
    | nil => cases e; rfl
    | cons _ _ => cases e
  | cons i is ih => intro ds ρ ρ' j e h; cases ds with
    | nil => cases e
    | cons d ds =>
      rw [ih (show setNs is ds _ = _ from e) (fun z => h (List.mem_cons_of_mem _ z)), List.getElem?_set_ne (by rintro rfl; exact h (List.mem_cons_self ..))]
theorem tgtM_out {t : Tgt} {d : D} {j : Nat} (e : tgtM t d ρ = some ρ') (h : j ∉ t.slots) : ρ'[j]? = ρ[j]? := by
  cases t with
  | one i => cases e; rw [List.getElem?_set_ne (by rintro rfl; exact h (List.mem_cons_self ..))]
  | tup is => cases d <;> first | exact setNs_out e h | cases e
/-- back from a block -/
theorem SR.back {H2 : Hp} {F2 : Addr → Prop} {vs : List Nat} (s : SR C H F σ ρ) (b : SR (blkC C H F σ ρ) H2 F2 σ' ρ') (hle : Le H H2) (hf : ∀ a, F a → F2 a) (ho : plainAt ρ vs = true) (hs : ∀ j, j ∉ vs → σ'[j]? = σ[j]? ∧ ρ'[j]? = ρ[j]?) : SR C H2 F2 σ ρ := by
  refine ⟨s.len, fun i r e => ?_, s.dist, s.h0.trans hle, fun a h => hf a (s.f0 a h), fun a h => ?_, b.fdom, s.fx⟩
  · obtain ⟨v, h1, h2⟩ := s.at_ i r e
    by_cases hi : i ∈ vs
    · have ho := plainAt_get ho hi e
      cases r with
      | val d => exact ⟨v, h1, Rp.mono hle.keep hf d v h2⟩
      | ownL _ => cases ho
      | ownD _ => cases ho
    · obtain ⟨q1, q2⟩ := hs i hi
      obtain ⟨v', h3, h4⟩ := b.at_ i r (q2.trans e)
      rw [q1, h1] at h3
      cases h3
      refine ⟨v, h1, RvAt.re (C := blkC C H F σ ρ) rfl rfl (fun hr a ea => ?_) h4⟩
      exact (s.own_at ⟨ea ▸ h1, r, e, hr⟩).2.2
  · rcases b.fnew a h with q | q
    · exact s.fnew a q
    · have q : (if ∃ i, Own σ ρ i a then none else H a) = none := q
      split at q
      · rename_i w
        obtain ⟨i, o⟩ := w
        exact .inr (s.own_at o).2.2
      · exact .inr (s.fresh0 q)
/-- an object that is nobody's is not let go within a block -/
theorem SR.not_F {H2 : Hp} {F2 : Addr → Prop} {p : Addr} {o : HO} (b : SR (blkC C H F σ ρ) H2 F2 σ' ρ') (hp : H p = some o) (hf : ¬ F p) (no : ∀ i, ¬ Own σ ρ i p) : ¬ F2 p := fun z => by
  rcases b.fnew p z with q | q
  · exact hf q
  · have q : (if ∃ i, Own σ ρ i p then none else H p) = none := q
    rw [if_neg (fun ⟨i, o⟩ => no i o), hp] at q
    cases q
/-- nobody's object changes -/
theorem SR.upd_free {p : Addr} {o u : HO} (s : SR C H F σ ρ) (hp : H p = some u) (hf : ¬ F p) (hm : Mut (some u)) (h0 : C.H0 p = none) (no : ∀ i, ¬ Own σ ρ i p) : SR C (upd H p o) F σ ρ := by
  refine ⟨s.len, fun i r e => ?_, s.dist, fun a u' e => ?_, s.f0, s.fnew, fun a h => ?_, s.fx⟩
  · obtain ⟨v, h1, h2⟩ := s.at_ i r e
    refine ⟨v, h1, ?_⟩
    have kp := Keep.upd (o := o) hp hm hf
    cases r with
    | val d => exact Rp.mono kp (fun _ z => z) d v h2
    | ownL ds =>
      obtain ⟨a, xs, q, h3, h4, h5, h6⟩ := h2
      have ne : a ≠ p := fun z => no i ⟨by rw [h1, q, z], _, e, rfl⟩
      exact ⟨a, xs, q, by rw [upd_ne ne]; exact h3, h4, h5, RpA.mono kp (fun _ z => z) ds xs h6⟩
    | ownD kvs =>
      obtain ⟨a, es, ep, q, h3, h4, h5, h6⟩ := h2
      have ne : a ≠ p := fun z => no i ⟨by rw [h1, q, z], _, e, rfl⟩
      exact ⟨a, es, ep, q, by rw [upd_ne ne]; exact h3, h4, h5, RpK.mono kp (fun _ z => z) kvs es h6⟩
  · have ne : a ≠ p := by rintro rfl; rw [h0] at e; cases e
    rw [upd_ne ne]; exact s.h0 a u' e
  · obtain ⟨o', e⟩ := s.fdom a h
    exact ⟨o', by rw [upd_ne (by rintro rfl; exact hf h)]; exact e⟩
theorem slots_back {vs : List Nat} {t : Tgt} {d : D} (ht : ∀ i ∈ t.slots, i ∈ vs) (e : tgtM t d (wipeR ρ vs) = some ρ') (hw : L2.wipe σ' vs = L2.wipe σ vs) : ∀ j, j ∉ vs → σ'[j]? = σ[j]? ∧ ρ'[j]? = ρ[j]? := fun j hj =>
  ⟨by rw [← wipe_out hj, hw, wipe_out hj], by rw [tgtM_out e (fun z => hj (ht j z)), wipeR_out hj]⟩
end
/-! ### tests in a block -/
def DTs (X : Cx) (C : Cc) (ifs : List Expr) (m : BM) : Prop := PTs X ifs (tB C X.mg m)
def bYes : BM := fun _ => ok true
theorem PTs.imp {X : Cx} {ifs : List Expr} {t t' : TT} (h : PTs X ifs t) (i : ∀ σ H Q, t' σ H Q → t σ H Q) : PTs X ifs t' := ⟨fun pins s σ H Q I q => h.run pins s σ H Q I (i σ H Q q)⟩
theorem DTs.nil {X : Cx} {C : Cc} : DTs X C [] bYes := PTs.imp pts_nil fun σ H Q ⟨ρ, F, r, s, hm, q⟩ => by
  cases hm
  exact q H F (.refl s)
theorem DTs.one {X : Cx} {C : Cc} {c : Expr} {m : BM} (h : DB X C c m) : DTs X C [c] m := pts_one h
/-! ### [e for t in l if c] -/
def mLc (t : Tgt) (vs : List Nat) (c : BM) (e : OM) (ρ : Regs) : List D → Option (List D)
  | [] => some []
  | d :: ds => match tgtM t d (wipeR ρ vs) with
    | none => none
    | some ρ1 => match c ρ1 with
      | some (.inl true) => match e ρ1 with
        | some (.inl x) => (mLc t vs c e ρ ds).map (x :: ·)
        | _ => none
      | some (.inl false) => mLc t vs c e ρ ds
      | _ => none
def eLc (t : Tgt) (vs : List Nat) (it : LM) (c : BM) (e : OM) : EM := fun ρ => eb (it ρ) fun ds => if plainAt ρ vs = true then (match mLc t vs c e ρ ds with
  | some xs => if xs.length ≤ 1000 then ok (.ownL xs) else none
  | none => none) else none
section
variable {X : Cx} {C : Cc} {elt tg iter : Expr} {ifs : List Expr} {scope : Scope} {own : List (Str × Nat)} {pos : Pos} {t : Tgt} {it : LM} {c : BM} {e : OM}
abbrev BlkX (X : Cx) (s : Shared) (H : Hp) (scope : Scope) (c : Addr) (cl : List (Str × Addr)) (fp : List Addr) : Cx := X.blk s H scope (compEnvC scope cl c X.env) fp
theorem ei_I {mg : Str → Option Value} {m : LM} {f : Regs → List D → ER RV} {σ : L2.St} {H : Hp} {R : It → Hp → Prop} {Y : L2.St → Regs → Hp → (Addr → Prop) → RV → Prop} (h : tM C mg (fun ρ => eb (m ρ) (f ρ)) Y σ H)
    (hz : ∀ ρ F ds, SR C H F σ ρ → (∀ b, f ρ ds = some (.inl b) → Y σ ρ H F b) → (∀ x, f ρ ds = some (.inr x) → XWant C mg σ ρ H F x) → (∃ r, f ρ ds = some r) → ∀ J H' F', Gr C σ ρ H F H' F' → ItOk C J 0 H' F' ds → R J H') : tI C mg m σ H R :=
  tM_eb h rfl fun ρ F d s _ hy hx hr => hz ρ F d s hy hx hr
/-- tests and values within a block -/
def tBx (C : Cc) (mg : Str → Option Value) (c : BM) : TT := fun σ H Q => ∃ C' : Cc, (∀ i, C'.fx i = none) ∧ Blk C C' ∧ tB C' mg c σ H Q
def tVx (C : Cc) (mg : Str → Option Value) (c : OM) : TE := fun σ H Q => ∃ C' : Cc, (∀ i, C'.fx i = none) ∧ Blk C C' ∧ tV C' mg c σ H Q
theorem lc_imp (k : Cok X C) {own : List Nat} {σ : L2.St} {H : Hp} {Q : VK} (hsl : ∀ i ∈ t.slots, i ∈ own) (q : tE C X.mg (eLc t own it c e) σ H Q) : tLc (tI C X.mg it) (gOf X.K t) (tBx C X.mg c) (tVx C X.mg e) own σ H Q := by
  generalize own = vs at hsl q ⊢
  refine ei_I q fun ρ F ds s hy hx hr J H1 F1 g hit Da hDa => ?_
  obtain ⟨r, hr⟩ := hr
  by_cases hpl : plainAt ρ vs = true
  case neg => rw [if_neg hpl] at hr; cases hr
  rw [if_pos hpl] at hy hr
  cases hm : mLc t vs c e ρ ds with
  | none => rw [hm] at hr; cases hr
  | some all =>
    rw [hm] at hy hr
    by_cases hlen : all.length ≤ 1000
    case neg => simp only [if_neg hlen] at hr; cases hr
    simp only [if_pos hlen] at hy
    have hY := hy _ rfl
    have no1 : ∀ i, ¬ Own σ ρ i Da := g.sr.not_own hDa
    have nF1 : ¬ F1 Da := g.sr.freshF hDa
    have h01 : C.H0 Da = none := g.sr.fresh0 hDa
    refine ⟨fun i m H2 => ∃ F2 ds2 acc accD rest, m = ds2.length ∧ Le H1 H2 ∧ Kp H1 F1 H2 F2 ∧ SR C H2 F2 σ ρ ∧ H2 Da = some (.lst acc) ∧ ¬ F2 Da ∧ RpA C.w C.K H2 F2 acc accD ∧ mLc t vs c e ρ ds2 = some rest ∧ accD ++ rest = all ∧ ItOk C J i H2 F2 ds2, ?_, ?_⟩
    · have kn : Kp H1 F1 (upd H1 Da (.lst [])) F1 := (Le.new hDa).kp
      exact ⟨ds.length, F1, ds, [], [], all, rfl, Le.new hDa, kn, g.sr.le (Le.new hDa), upd_same, nF1, .nil, hm, rfl, hit.kp kn⟩
    rintro i m H2 ⟨F2, ds2, acc, accD, rest, rfl, le2, kp2, s2, hD2, nF2, ra2, hm2, hall, it2⟩
    cases ds2 with
    | nil =>
      cases hm2
      rw [List.append_nil] at hall
      subst hall
      refine .inl ⟨it2 H2 F2 .refl, ?_⟩
      exact hY _ H2 F2 ⟨g.le.trans le2, fun a h => kp2.ff a (g.ff a h), s2, g.sr0⟩ ⟨⟨Da, acc, rfl, hD2, nF2, h01, ra2⟩, fun _ => ⟨Da, rfl, by
        cases q : H Da with
        | none => rfl
        | some o => have := g.le _ _ q; rw [hDa] at this; cases this⟩⟩
    | cons d ds2 =>
      obtain ⟨go, nxt⟩ := it2 H2 F2 .refl
      unfold mLc at hm2
      cases ht1 : tgtM t d (wipeR ρ vs) with
      | none => rw [ht1] at hm2; cases hm2
      | some ρ1 =>
        simp only [ht1] at hm2
        refine .inr ⟨go, fun H3 => ∃ F3 acc accD rest, Le H1 H3 ∧ Kp H1 F1 H3 F3 ∧ SR C H3 F3 σ ρ ∧ H3 Da = some (.lst acc) ∧ ¬ F3 Da ∧ RpA C.w C.K H3 F3 acc accD ∧ mLc t vs c e ρ ds2 = some rest ∧ accD ++ rest = all ∧ ItOk C J (i + 1) H3 F3 ds2,
          fun H3 ⟨F3, acc, accD, rest, h⟩ => ⟨ds2.length, Nat.lt_succ_self _, F3, ds2, acc, accD, rest, rfl, h⟩, fun x H3 y => ?_⟩
        obtain ⟨le3, x3, it3⟩ := nxt x H3 y
        have s3 := s2.le le3
        have hD3 : H3 Da = some (.lst acc) := le3 _ _ hD2
        have no3 : ∀ i, ¬ Own σ ρ i Da := no1
        have b3 : Blk C (blkC C H3 F2 σ ρ) := blkC_ok
        have sb3 : SR (blkC C H3 F2 σ ρ) H3 F2 (L2.wipe σ vs) (wipeR ρ vs) := (s3.blk).wipe vs fun _ => rfl
        refine gOf_ok (C := blkC C H3 F2 σ ρ) k.K sb3 x3 ht1 (fun _ _ => rfl) fun σ4 s4 hw4 => ?_
        have hw4 : L2.wipe σ4 vs = L2.wipe σ vs := by rw [hw4 vs hsl, wipe_wipe]
        have sl4 := slots_back hsl ht1 hw4
        have fin : ∀ {H5 F5 acc5 accD5 rest5}, Kp H3 F2 H5 F5 → Le H3 H5 → SR C H5 F5 σ ρ → H5 Da = some (.lst acc5) → ¬ F5 Da → RpA C.w C.K H5 F5 acc5 accD5 → mLc t vs c e ρ ds2 = some rest5 → accD5 ++ rest5 = all → ∃ F3 acc accD rest, Le H1 H5 ∧ Kp H1 F1 H5 F3 ∧ SR C H5 F3 σ ρ ∧ H5 Da = some (.lst acc) ∧ ¬ F3 Da ∧ RpA C.w C.K H5 F3 acc accD ∧ mLc t vs c e ρ ds2 = some rest ∧ accD ++ rest = all ∧ ItOk C J (i + 1) H5 F3 ds2 :=
          fun {H5 F5 acc5 accD5 rest5} k5 le5 s5 h5 n5 r5 m5 a5 => ⟨F5, acc5, accD5, rest5, (le2.trans le3).trans le5, (kp2.trans le3.kp).trans k5, s5, h5, n5, r5, m5, a5, it3.kp k5⟩
        refine ⟨hw4, ?_⟩
        cases hc1 : c ρ1 with
        | none => simp only [hc1] at hm2; cases hm2
        | some rc =>
          cases rc with
          | inr z => simp only [hc1] at hm2; cases hm2
          | inl b =>
            refine ⟨blkC C H3 F2 σ ρ, fun _ => rfl, b3, ρ1, F2, _, s4, hc1, fun H5 F5 g5 => ?_⟩
            cases b with
            | false =>
              simp only [hc1] at hm2
              exact fin g5.kp g5.le (s3.back g5.sr g5.le g5.ff hpl sl4) (g5.le _ _ hD3) (g5.sr.not_F hD3 nF2 no3) (g5.kp.rpA (C := C) (le3.kp.rpA (C := C) ra2)) hm2 hall
            | true =>
              simp only [hc1] at hm2
              cases he1 : e ρ1 with
              | none => simp only [he1] at hm2; cases hm2
              | some re =>
                cases re with
                | inr z => simp only [he1] at hm2; cases hm2
                | inl xd =>
                  simp only [he1] at hm2
                  obtain ⟨rest', hm3, hrest⟩ := Option.map_eq_some_iff.mp hm2
                  subst hrest
                  refine ⟨blkC C H3 F2 σ ρ, fun _ => rfl, b3, ρ1, F5, _, g5.sr, he1, fun y H6 F6 g6 x6 => ?_⟩
                  have le6 : Le H3 H6 := g5.le.trans g6.le
                  have hD6 : H6 Da = some (.lst acc) := le6 _ _ hD3
                  have nF6 : ¬ F6 Da := g6.sr.not_F hD3 nF2 no3
                  have s6 : SR C H6 F6 σ ρ := s3.back g6.sr le6 (fun a h => g6.ff a (g5.ff a h)) hpl sl4
                  have k6 : Kp H3 F2 H6 F6 := g5.kp.trans g6.kp
                  have la : acc.length = accD.length := ra2.length
                  refine ⟨acc, hD6, by rw [sizeLine_eq, la]; have := congrArg List.length hall; simp at this; omega, ?_⟩
                  have ku : Keep F6 H6 (upd H6 Da (.lst (acc ++ [y]))) := Keep.upd hD6 True.intro nF6
                  have k7 : Kp H6 F6 (upd H6 Da (.lst (acc ++ [y]))) F6 := ⟨ku, fun _ z => z⟩
                  have le7 : ∀ {a o}, a ≠ Da → H6 a = some o → (upd H6 Da (.lst (acc ++ [y]))) a = some o := fun {a o} ne h => by rw [upd_ne ne]; exact h
                  refine ⟨F6, acc ++ [y], accD ++ [xd], rest', fun a o h => ?_, (kp2.trans le3.kp).trans (k6.trans k7), s6.upd_free hD6 nF6 True.intro h01 no3, upd_same, nF6, k7.rpA (C := C) (RpA.append (k6.rpA (C := C) (le3.kp.rpA (C := C) ra2)) (.cons x6 .nil)), hm3, by rw [List.append_assoc]; exact hall, it3.kp (k6.trans k7)⟩
                  have ne : a ≠ Da := by rintro rfl; rw [hDa] at h; cases h
                  exact le7 ne (le6 _ _ (le3 _ _ (le2 _ _ h)))
theorem xT (k : Cok X C) (ht : ∀ (s : Shared) (H : Hp) (a : Addr) (cl : List (Str × Addr)) (fp : List Addr) (C' : Cc), (∀ i, C'.fx i = none) → Cok (BlkX X s H scope a cl fp) C' → DTs (BlkX X s H scope a cl fp) C' ifs c) :
    ∀ (s : Shared) (H : Hp) (a : Addr) (cl : List (Str × Addr)) (fp : List Addr), PTs (BlkX X s H scope a cl fp) ifs (tBx C X.mg c) :=
  fun s H a cl fp => ⟨fun pins s' σ H Q I ⟨C', h1, h2, q⟩ => (ht _ _ a cl fp C' h1 (h2.cok k ..)).run pins s' σ H Q I q⟩
theorem xV (k : Cok X C) (he : ∀ (s : Shared) (H : Hp) (a : Addr) (cl : List (Str × Addr)) (fp : List Addr) (C' : Cc), (∀ i, C'.fx i = none) → Cok (BlkX X s H scope a cl fp) C' → DV (BlkX X s H scope a cl fp) C' elt e) :
    ∀ (s : Shared) (H : Hp) (a : Addr) (cl : List (Str × Addr)) (fp : List Addr), PE (BlkX X s H scope a cl fp) elt (tVx C X.mg e) :=
  fun s H a cl fp => ⟨fun pins s' σ H Q I ⟨C', h1, h2, q⟩ => (he _ _ a cl fp C' h1 (h2.cok k ..)).run pins s' σ H Q I q⟩
theorem DE.lc (k : Cok X C) (hc : X.calm = true) (hi : DI X C tg iter it) (ok : BlkOk X.N X.env.scope scope own)
    (hg : ∀ (s : Shared) (H : Hp) (c : Addr) (cl : List (Str × Addr)) (fp : List Addr), DG (BlkX X s H scope c cl fp) tg t)
    (ht : ∀ (s : Shared) (H : Hp) (a : Addr) (cl : List (Str × Addr)) (fp : List Addr) (C' : Cc), (∀ i, C'.fx i = none) → Cok (BlkX X s H scope a cl fp) C' → DTs (BlkX X s H scope a cl fp) C' ifs c)
    (he : ∀ (s : Shared) (H : Hp) (a : Addr) (cl : List (Str × Addr)) (fp : List Addr) (C' : Cc), (∀ i, C'.fx i = none) → Cok (BlkX X s H scope a cl fp) C' → DV (BlkX X s H scope a cl fp) C' elt e)
    (hsl : ∀ i ∈ t.slots, i ∈ own.map (·.2) := by decide) (hs : ∀ x, foldedSetIterable iter X.env x = pure x := by intro _; rfl) :
    DE X C (.ListComp elt [⟨tg, iter, ifs, 0⟩] scope pos) (eLc t (own.map (·.2)) it c e) :=
  PE.imp (pe_lc (g := gOf X.K t) hc k.nd hi ok hg (xT k ht) (xV k he) hs) fun σ H Q q => lc_imp k hsl q
/-- name = [..], on one line -/
theorem DS.setLc (k : Cok X C) {i : Nat} {y : Str} {py spos : Pos} (hy : X.N[i]? = some y) (hyl : X.env.scope.names.lookup y = some .local)
    (hsw : swapsWith (.ListComp elt [⟨tg, iter, ifs, 0⟩] scope pos) (some (.Name y py)) spos.line X.env = pure true) (hc : X.calm = true) (hi : DI X C tg iter it) (ok : BlkOk X.N X.env.scope scope own)
    (hg : ∀ (s : Shared) (H : Hp) (c : Addr) (cl : List (Str × Addr)) (fp : List Addr), DG (BlkX X s H scope c cl fp) tg t)
    (ht : ∀ (s : Shared) (H : Hp) (a : Addr) (cl : List (Str × Addr)) (fp : List Addr) (C' : Cc), (∀ i, C'.fx i = none) → Cok (BlkX X s H scope a cl fp) C' → DTs (BlkX X s H scope a cl fp) C' ifs c)
    (he : ∀ (s : Shared) (H : Hp) (a : Addr) (cl : List (Str × Addr)) (fp : List Addr) (C' : Cc), (∀ i, C'.fx i = none) → Cok (BlkX X s H scope a cl fp) C' → DV (BlkX X s H scope a cl fp) C' elt e)
    (hf : C.fx i = none := by rfl) (hsl : ∀ i ∈ t.slots, i ∈ own.map (·.2) := by decide) (hs : ∀ x, foldedSetIterable iter X.env x = pure x := by intro _; rfl) :
    DS X C (.Assign [.Name y py] (.ListComp elt [⟨tg, iter, ifs, 0⟩] scope pos) spos) (sSet i (eLc t (own.map (·.2)) it c e)) :=
  PS.imp (ps_setLc (g := gOf X.K t) hc k.nd hy hyl hsw hi ok hg (xT k ht) (xV k he) hs) fun En σ H q => by
    refine lc_imp k hsl (st_E q fun ρ F a o s _ e w => ?_)
    cases e
    exact fun v H' F' g x => w _ H' F' g.kp (g.sr.set x.1 (fun ho b eb j oj => by
      obtain ⟨c, ec, n⟩ := x.2 ho
      rw [ec] at eb; cases eb
      exact g.sr0.not_own n j oj) hf)
end
end TS
/-! T11: what changes a register's own list or dict; dicts walked -/
namespace TS
open PySem PySem.Spec PyProof.Rows L2

section
variable {C : Cc} {H H' : Hp} {F F' : Addr → Prop} {σ σ' : L2.St} {ρ ρ' : Regs}
/-- the own thing of register i is changed -/
theorem SR.own_upd {i : Nat} {a : Addr} {o : HO} {rv : RV} (s : SR C H F σ ρ) (ow : Own σ ρ i a) (ho : isOwn rv = true) (h : RvAt C (upd H a o) F (.ref a) rv) : SR C (upd H a o) F σ (ρ.set i (some rv)) ∧ Kp H F (upd H a o) F := by
  obtain ⟨⟨u, hp, hm⟩, hf, h0⟩ := s.own_at ow
  have kp := Keep.upd (o := o) hp hm hf
  refine ⟨⟨by rw [List.length_set]; exact s.len, fun j r e => ?_, fun j k b o1 o2 => ?_, fun b u' e => ?_, s.f0, s.fnew, fun b h => ?_, s.fx⟩, ⟨kp, fun _ z => z⟩⟩
  · by_cases hj : j = i
    · subst hj
      rw [List.getElem?_set_self'] at e
      cases e2 : ρ[j]? with
      | none => rw [e2] at e; cases e
      | some u =>
        rw [e2] at e
        simp at e
        subst e
        exact ⟨_, ow.1, h⟩
    · rw [List.getElem?_set_ne (Ne.symm hj)] at e
      obtain ⟨v, h1, h2⟩ := s.at_ j r e
      refine ⟨v, h1, ?_⟩
      cases r with
      | val d => exact Rp.mono kp (fun _ z => z) d v h2
      | ownL ds =>
        obtain ⟨b, xs, q, h3, h4, h5, h6⟩ := h2
        have ne : b ≠ a := fun z => hj (s.dist j i a ⟨by rw [h1, q, z], _, e, rfl⟩ ow)
        exact ⟨b, xs, q, by rw [upd_ne ne]; exact h3, h4, h5, RpA.mono kp (fun _ z => z) ds xs h6⟩
      | ownD kvs =>
        obtain ⟨b, es, ep, q, h3, h4, h5, h6⟩ := h2
        have ne : b ≠ a := fun z => hj (s.dist j i a ⟨by rw [h1, q, z], _, e, rfl⟩ ow)
        exact ⟨b, es, ep, q, by rw [upd_ne ne]; exact h3, h4, h5, RpK.mono kp (fun _ z => z) kvs es h6⟩
  · have cv : ∀ {j}, Own σ (ρ.set i (some rv)) j b → Own σ ρ j b := fun {j} ⟨z1, r, z2, z3⟩ => by
      by_cases hj : j = i
      · subst hj
        obtain ⟨e1, r', e2, e3⟩ := ow
        exact ⟨z1, r', e2, e3⟩
      · rw [List.getElem?_set_ne (Ne.symm hj)] at z2; exact ⟨z1, r, z2, z3⟩
    exact s.dist j k b (cv o1) (cv o2)
  · have ne : b ≠ a := by rintro rfl; rw [h0] at e; cases e
    rw [upd_ne ne]; exact s.h0 b u' e
  · obtain ⟨o', e⟩ := s.fdom b h
    exact ⟨o', by rw [upd_ne (fun z => hf (by rw [← z]; assumption))]; exact e⟩
end
/-! ### {} -/
section
variable {X : Cx} {C : Cc} {e : Expr} {pos pos' p apos cpos : Pos}
theorem dicO_empty {P : Program} {w : World} {H : Hp} (h : Heap) (hb : sysModules < h.objs.size) : ObjOk P w H (h.push { cls := .type "dict", data := .dict #[] }) h.objs.size (dicO w h.objs.size [] 0) := by
  refine ⟨⟨beq_eq_false_iff_ne.mpr (Ne.symm (Nat.ne_of_lt hb)), Nat.zero_le _, List.nodup_nil, _, #[], [], Heap.get?_push_size _ rfl, ⟨rfl, rfl, rfl⟩, rfl, .nil, rfl⟩, ⟨_, Heap.get?_push_size _ rfl⟩, ?_⟩
  rintro g1 g2 ⟨q1, q2, q3, o, des, vs, ho, r⟩ k
  exact ⟨q1, q2, q3, o, des, vs, k o ho, r⟩
def tDNewO (w : World) : TE := fun _ H Q => ∀ p, H p = none → Q (.ref p) (upd H p (dicO w p [] 0))
theorem pe_dnewO : PE X (.Dict [] [] pos) (tDNewO X.w) := ⟨fun pins s σ H Q I h =>
  wpAny_Dict_empty ⟨.ref s.heap.objs.size, _, I.laid (a := s.heap.objs.size) (o := dicO X.w s.heap.objs.size [] 0) (t' := s.toks) (fun _ _ q => Heap.get?_push_of_some _ q) (Nat.le_refl _) (dicO_empty s.heap I.big), rfl, h _ (I.hok.fresh (Nat.le_refl _))⟩⟩
def eDNew : EM := fun _ => ok (.ownD [])
theorem DE.dnew (k : Cok X C) : DE X C (.Dict [] [] pos) eDNew := PE.imp pe_dnewO fun σ H Q ⟨ρ, F, r, s, hm, q⟩ p hp => by
  cases hm
  exact q _ _ F (.new s hp) ⟨⟨p, [], 0, rfl, by rw [k.w]; exact upd_same, s.freshF hp, s.fresh0 hp, .nil⟩, fun _ => ⟨p, rfl, hp⟩⟩
/-! ### d[k] = v -/
section
variable {pins : List (Addr × Obj)} {σ : L2.St} {H : Hp} {s : Shared} {F : Addr → Prop} {A : Around} {E : Value → Shared → Prop}
theorem d_setItemO {a b : Addr} {es : List Ent} {ep : Nat} {kvs : List (D × D)} {k : NK} {dk : D} {v : V} {r : Value} {Q : Unit → Shared → Prop} (I : L2.Inv X pins σ H s) (hr : (nestedKind X.prog X.w).room A.in1) (hH : H a = some (dicO X.w a es ep)) (hk : RpK X.w X.K H F es kvs) (hb : Rp X.w X.K H F (.ref b) dk) (hkd : kOf dk = some k) (hl : es.length < sizeLine) (rv : RelV v r)
    (h : ∀ ep' s', L2.Inv X pins σ (upd H a (dicO X.w a (ePut es k b v) ep')) s' → Q () s') : wpAny (model X.prog X.w) A (setItem (.ref a) (.ref b) r) Q E s := by
  obtain ⟨q1, q2, us, q3, q4⟩ := dic_of I hH hk
  have hz : (withV es us).length ≤ sizeLine := by rw [withV_length q3]; exact q2
  refine wpAny_setItem_heap hr (key_is I hkd hb) q4 (fun h' hm' hs => ?_) hz
  obtain ⟨us2, e1, e2⟩ := vals_put (k := k) (b := b) rv q3
  rw [e2] at hm'
  obtain ⟨ep', new⟩ := dic_new (P := X.prog) (X := X) (H' := upd H a (dicO X.w a (ePut es k b v) 0)) q1 (Nat.le_trans (ePut_length es k b v) hl) e1 hm'
  refine h ep' _ (d_write I (by rw [hH]; exact True.intro) hs ?_ ?_)
  · obtain ⟨o, _, _, ho, _⟩ := hm'
    exact ⟨o, ho⟩
  · obtain ⟨ep2, new2⟩ := dic_new (P := X.prog) (X := X) (H' := upd H a (dicO X.w a (ePut es k b v) ep')) q1 (Nat.le_trans (ePut_length es k b v) hl) e1 hm'
    exact new
theorem d_dictSetO {a b : Addr} {es : List Ent} {ep : Nat} {kvs : List (D × D)} {k : NK} {dk : D} {v : V} {r : Value} {Q : Unit → Shared → Prop} (I : L2.Inv X pins σ H s) (hr : (nestedKind X.prog X.w).room A) (hH : H a = some (dicO X.w a es ep)) (hk : RpK X.w X.K H F es kvs) (hb : Rp X.w X.K H F (.ref b) dk) (hkd : kOf dk = some k) (hl : es.length < sizeLine) (rv : RelV v r)
    (h : ∀ ep' s', L2.Inv X pins σ (upd H a (dicO X.w a (ePut es k b v) ep')) s' → Q () s') : wpAny (model X.prog X.w) A (dictSet a (.ref b) r) Q E s := by
  obtain ⟨q1, q2, us, q3, q4⟩ := dic_of I hH hk
  have hz : (withV es us).length ≤ sizeLine := by rw [withV_length q3]; exact q2
  refine wpAny_dictSet_heap hr (key_is I hkd hb) q4 (fun h' hm' hs => ?_) hz
  obtain ⟨us2, e1, e2⟩ := vals_put (k := k) (b := b) rv q3
  rw [e2] at hm'
  obtain ⟨ep', new⟩ := dic_new (P := X.prog) (X := X) (H' := upd H a (dicO X.w a (ePut es k b v) 0)) q1 (Nat.le_trans (ePut_length es k b v) hl) e1 hm'
  refine h ep' _ (d_write I (by rw [hH]; exact True.intro) hs ?_ new)
  obtain ⟨o, _, _, ho, _⟩ := hm'
  exact ⟨o, ho⟩
end
def sDPutT (C : Cc) (tv td ty : TE) : L2.TS := fun D σ H => tv σ H fun v H1 => td σ H1 fun x H2 => ty σ H2 fun y H3 => ∃ a b es ep kvs k dk F, x = .ref a ∧ H3 a = some (dicO C.w a es ep) ∧ RpK C.w C.K H3 F es kvs ∧ y = .ref b ∧ Rp C.w C.K H3 F (.ref b) dk ∧ kOf dk = some k ∧ es.length < sizeLine ∧ ∀ ep', D.nx σ (upd H3 a (dicO C.w a (ePut es k b v) ep'))
theorem ps_dputO (k : Cok X C) {value o i : Expr} {tv td ty : TE} (ho : PE X o td) (hi : PE X i ty) (hv : PE X value tv) (hs : swapsWith value (some (.Subscript o i pos')) pos.line X.env = pure false) : PS X (.Assign [.Subscript o i pos'] value pos) (sDPutT C tv td ty) := by
  refine ⟨fun pins s σ H D I h => ?_⟩
  refine wpAny_Assign_Subscript (thn (hv.run pins s σ H _ I h) fun r s1 ⟨v, H1, I1, rv, q1⟩ => thn (ho.run pins s1 σ H1 _ I1 q1) fun u s2 ⟨x, H2, I2, rx, q2⟩ => thn (hi.run pins s2 σ H2 _ I2 q2) fun iv s3 ⟨y, H3, I3, ry, a, b, es, ep, kvs, kk, dk, F, ex, h1, h2, ey, h3, h4, h5, q3⟩ => ?_) hs
  subst ex ey
  obtain rfl : u = Value.ref a := rx
  obtain rfl : iv = Value.ref b := ry
  refine d_setItemO I3 k.room (by rw [← k.w]; exact h1) (by rw [← k.w, ← k.K]; exact h2) (by rw [← k.w, ← k.K]; exact h3) h4 h5 rv fun ep' s4 I4 => ⟨σ, _, ?_, q3 ep'⟩
  rw [k.w]; exact I4
def regD (ρ : Regs) (i : Nat) : Option (List (D × D)) := match ρ[i]? with
  | some (some (.ownD kvs)) => some kvs
  | _ => none
def regL (ρ : Regs) (i : Nat) : Option (List D) := match ρ[i]? with
  | some (some (.ownL ds)) => some ds
  | _ => none
theorem regD_some {ρ : Regs} {i : Nat} {kvs : List (D × D)} (h : regD ρ i = some kvs) : ρ[i]? = some (some (.ownD kvs)) := by
  unfold regD at h
  split at h
  · cases h; assumption
  · cases h
theorem regL_some {ρ : Regs} {i : Nat} {ds : List D} (h : regL ρ i = some ds) : ρ[i]? = some (some (.ownL ds)) := by
  unfold regL at h
  split at h
  · cases h; assumption
  · cases h
/-- x_i[k] = v -/
def sPut (i : Nat) (km vm : OM) : SM := sb vm fun ρ v => match regD ρ i with
  | none => none
  | some kvs => sb km (fun ρ dk => match kOf dk with
    | some k => if kvs.length < 1000 then some (.nx (ρ.set i (some (.ownD (dPut kvs k dk v))))) else none
    | none => none) ρ
theorem sb_V {mg : Str → Option Value} {m : OM} {f : Regs → D → Option Out} {En : Ends} {σ : L2.St} {H : Hp} {F : Addr → Prop} {ρ : Regs} {o : Out} {R : V → Hp → Prop} (s : SR C H F σ ρ) (e : sb m f ρ = some o) (w : Wo C mg En o H F)
    (hz : ∀ a, m ρ = some (.inl a) → f ρ a = some o → ∀ v H' F', Gr C σ ρ H F H' F' → Rp C.w C.K H' F' v a → R v H') : tV C mg m σ H R := by
  unfold sb at e
  cases hm : m ρ with
  | none => rw [hm] at e; cases e
  | some r =>
    rw [hm] at e
    cases r with
    | inr x =>
      cases e
      exact ⟨ρ, F, _, s, hm, fun cls d H2 F2 g k => w cls d σ H2 F2 g.kp g.sr k⟩
    | inl a => exact ⟨ρ, F, _, s, hm, hz a hm e⟩
theorem SR.regD {C : Cc} {H : Hp} {F : Addr → Prop} {σ : L2.St} {ρ : Regs} {i : Nat} {kvs : List (D × D)} (s : SR C H F σ ρ) (h : regD ρ i = some kvs) : ∃ a es ep, σ[i]? = some (some (.ref a)) ∧ Own σ ρ i a ∧ H a = some (dicO C.w a es ep) ∧ ¬ F a ∧ C.H0 a = none ∧ RpK C.w C.K H F es kvs := by
  have h := regD_some h
  obtain ⟨v, h1, a, es, ep, e, h2, h3, h4, h5⟩ := s.at_ i _ h
  subst e
  exact ⟨a, es, ep, h1, ⟨h1, _, h, rfl⟩, h2, h3, h4, h5⟩
theorem SR.regL {C : Cc} {H : Hp} {F : Addr → Prop} {σ : L2.St} {ρ : Regs} {i : Nat} {ds : List D} (s : SR C H F σ ρ) (h : regL ρ i = some ds) : ∃ a xs, σ[i]? = some (some (.ref a)) ∧ Own σ ρ i a ∧ H a = some (.lst xs) ∧ ¬ F a ∧ C.H0 a = none ∧ RpA C.w C.K H F xs ds := by
  have h := regL_some h
  obtain ⟨v, h1, a, xs, e, h2, h3, h4, h5⟩ := s.at_ i _ h
  subst e
  exact ⟨a, xs, h1, ⟨h1, _, h, rfl⟩, h2, h3, h4, h5⟩
theorem DS.put (k : Cok X C) {i : Nat} {x : Str} {value ix : Expr} {km vm : OM} (hN : X.N[i]? = some x) (hv : Vis X.env.scope x) (hd : (x == ("__debug__" : Str)) = false) (hcd : (x == ("__classdict__" : Str)) = false)
    (hk : DV X C ix km) (hval : DV X C value vm) (hs : swapsWith value (some (.Subscript (.Name x p) ix pos')) pos.line X.env = pure false := by rfl) :
    DS X C (.Assign [.Subscript (.Name x p) ix pos'] value pos) (sPut i km vm) := PS.imp (ps_dputO k (pe_var hN hv hd hcd) hk hval hs) fun En σ H q => by
  refine st_V q fun ρ F v o s hm e w uv H1 F1 g1 xv => ?_
  have w1 := w.kp g1.kp
  cases hr : regD ρ i with
  | none => rw [hr] at e; cases e
  | some kvs =>
    simp only [hr] at e
    obtain ⟨a, es, ep, ea, ow, hH, hf, h0, hk⟩ := g1.sr.regD hr
    refine ⟨_, ea, sb_V g1.sr e w1 fun dk hm2 e2 vk H2 F2 g2 xk => ?_⟩
    cases hko : kOf dk with
    | none => simp only [hko] at e2; cases e2
    | some kk =>
      simp only [hko] at e2
      by_cases hl : kvs.length < 1000
      case neg => rw [if_neg hl] at e2; cases e2
      rw [if_pos hl] at e2
      cases e2
      obtain ⟨b, rfl⟩ := xk.key_ref hko
      obtain ⟨a', es', ep', ea', ow2, hH2, hf2, h02, hk2⟩ := g2.sr.regD hr
      rw [ea] at ea'; cases ea'
      refine ⟨a, b, es', ep', kvs, kk, dk, F2, rfl, hH2, hk2, rfl, xk, hko, by rw [hk2.length, sizeLine_eq]; omega, fun ep2 => ?_⟩
      have xv2 := g2.rp xv
      have kp : Keep F2 H2 (upd H2 a (dicO C.w a (ePut es' kk b uv) ep2)) := Keep.upd hH2 True.intro hf2
      obtain ⟨s3, k3⟩ := g2.sr.own_upd (o := dicO C.w a (ePut es' kk b uv) ep2) (rv := .ownD (dPut kvs kk dk v)) ow2 rfl ⟨a, _, ep2, rfl, upd_same, hf2, h02, RpK.mono kp (fun _ z => z) _ _ (hk2.put hko xk xv2)⟩
      exact w _ _ F2 ((g1.kp.trans g2.kp).trans k3) s3
/-! ### d.pop(k) -/
def tDPop (C : Cc) (td ty : TE) : TE := fun σ H Q => td σ H fun x H1 => (∃ a es ep kvs F, x = .ref a ∧ H1 a = some (dicO C.w a es ep) ∧ RpK C.w C.K H1 F es kvs) ∧ tCons ty tNil σ H1 fun vs H2 => ∃ a b es ep kvs k dk v F, x = .ref a ∧ H2 a = some (dicO C.w a es ep) ∧ RpK C.w C.K H2 F es kvs ∧ vs = [.ref b] ∧ Rp C.w C.K H2 F (.ref b) dk ∧ kOf dk = some k ∧ eFind es k = some v ∧ ∀ ep', Q v (upd H2 a (dicO C.w a (eDrop es k) ep'))
theorem pe_dpopO (k : Cok X C) {o i : Expr} {td ty : TE} (ho : PE X o td) (hi : PE X i ty)
    (hbase : attributeBase o "pop" X.env (eval o X.env) = eval o X.env := by rfl)
    (hfew : ((backTo cpos (starEach [i] X.env)).all (fun x => !x.1) && (backToKw cpos (keywordEach [] X.env)).all (fun x => x.1.isSome)
      && decide ([i].length + ([] : List Keyword).length + (if ([] : List Keyword).isEmpty then 0 else 1) < 30)) = true := by rfl)
    (hline : (apos.endLine == cpos.line) = true := by rfl) (hs : starEach [i] X.env = (false, eval i X.env) :: starEach [] X.env := by rfl) (hplain : (backTo cpos (starEach [] X.env)).any (·.1) = false := by rfl) :
    PE X (.Call (.Attribute o "pop" apos) [i] [] cpos) (tDPop C td ty) := by
  refine ⟨fun pins s σ H Q I h => ?_⟩
  refine wpAny_Call_method_late hbase hfew hline rfl (thn (ho.run pins s σ H _ I h) fun v s1 ⟨x, H1, I1, r1, ⟨a, es, ep, kvs, F, ex, hH, hk⟩, q1⟩ => ?_)
  subst ex
  obtain rfl : v = Value.ref a := r1
  rw [k.w] at hH
  rw [k.w, k.K] at hk
  obtain ⟨z1, z2, us, z3, z4⟩ := dic_of I1 hH hk
  refine ⟨"dict", "dict.pop", PySem.F.plainAttrs_dict, PySem.F.slot_dict_pop, PySem.F.type_dict_pop, z4.typeIs, dictOfH_noDict z4, ?_⟩
  have hA := (pa_cons (X := X) hi pa_nil hs).run cpos pins s1 σ H1 _ I1 q1
  rw [hs] at hA ⊢
  refine Calls.callWith_builtin (by show (false || (backTo cpos (starEach [] X.env)).any (·.1)) = false; rw [hplain] <;> rfl) (Calls.evalArgs_plain ?_)
  refine thn hA fun us2 s2 ⟨vs, H2, I2, r2, a', b, es2, ep2, kvs2, kk, dk, v, F2, ea, hH2, hk2, ey, xb, hko, hfi, q2⟩ => ?_
  cases ea
  subst ey
  cases r2 with
  | cons ru rn =>
    cases rn
    cases ru
    rw [k.w] at hH2
    rw [k.w, k.K] at hk2 xb
    obtain ⟨z1, z2, us, z3, z4⟩ := dic_of I2 hH2 hk2
    rcases withV_at (k := kk) z3 with ⟨n1, n2⟩ | ⟨v', u', b', n1, n2, n3⟩
    · rw [n1] at hfi; cases hfi
    · rw [n1] at hfi; cases hfi
      refine call_pop_heap (more := []) (.inl rfl) (PySem.F.args_dict_pop_2 _ _) k.room (key_is I2 hko xb) z1 z4 n2 (fun h' hm' hs' => ?_) (by rw [withV_length z3]; exact z2)
      obtain ⟨us3, e1, e2⟩ := vals_drop (k := kk) z3
      rw [e2] at hm'
      obtain ⟨ep', new⟩ := dic_new (P := X.prog) (X := X) (H' := upd H2 a (dicO X.w a (eDrop es2 kk) 0)) z1 (Nat.le_trans (eDrop_length es2 kk) z2) e1 hm'
      refine ⟨v, _, d_write I2 (by rw [hH2]; exact True.intro) hs' ?_ new, n3, by have := q2 ep'; rwa [k.w] at this⟩
      obtain ⟨o, _, _, ho, _⟩ := hm'
      exact ⟨o, ho⟩
end
end TS
/-! T12: dicts walked; append, pop, extend -/
namespace TS
open PySem PySem.Spec PyProof.Rows L2

/-! ### for k in d -/
def Itko (w : World) (d : Addr) (es : List Ent) (ep : Nat) : It :=
  ⟨fun i H => H d = some (dicO w d es ep) ∧ i < es.length, fun i H x H' => H' = H ∧ ∃ e, es[i]? = some e ∧ x = .ref e.2.1, fun i H => H d = some (dicO w d es ep) ∧ es.length ≤ i⟩
theorem dicO_at {P : Program} {w : World} {H : Hp} {h : Heap} {d : Addr} {es : List Ent} {ep : Nat} (hok : HOk P w H h) (hd : H d = some (dicO w d es ep)) :
    (d == sysModules) = false ∧ ∃ (o : Obj) (des : Array DictEntry), h.get? d = some o ∧ o.ExactDict ∧ o.data = .dict des ep ∧ des.size = es.length ∧ ∀ (i : Nat) (e : Ent), es[i]? = some e → ∃ en : DictEntry, des[i]? = some en ∧ en.key = Value.ref e.2.1 := by
  obtain ⟨⟨h1, h2, h3, o, des, vs, ho, hx, hdt, hv, hz⟩, _⟩ := hok d _ hd
  have hl : vs.length = es.length := by have := hv.length; simpa using this.symm
  refine ⟨h1, o, des, ho, hx, hdt, ?_, fun i e ei => ?_⟩
  · have := congrArg List.length hz
    rw [List.length_zipWith, hl] at this
    simpa using this
  · have hi : i < es.length := (List.getElem?_eq_some_iff.mp ei).1
    have e2 : des.toList[i]? = some ⟨e.1.hash w, .ref e.2.1, vs[i]'(by omega)⟩ := by
      rw [hz, List.getElem?_zipWith, ei, List.getElem?_eq_getElem (by omega : i < vs.length)]
    exact ⟨_, by rw [← Array.getElem?_toList]; exact e2, rfl⟩
theorem turn_keysO {P : Program} {w : World} {K : PySem.W.Frag} {tg : Expr} {d : Addr} {es : List Ent} {ep : Nat} (it : Addr) : Turn P w K tg (Itko w d es ep) [it] it (fun i h => h.IsKeyIter it d i es.length ep) where
  mem := by simp
  obj := fun i h st b hb => by
    have e : b = it := by simpa using hb
    subst e
    obtain ⟨oi, e, c, dd⟩ := st
    exact ⟨oi, e, fun v z => by rw [dd] at z; cases z⟩
  keep := fun i h h' st k => st.at fun oi e => k it (by simp) oi e
  item := by
    intro X hP hw hK hc i pins s σ H E I hf st hg
    subst hP hw hK
    obtain ⟨hd, hi⟩ := hg
    obtain ⟨f0, f1, f2, f3, f4, f5⟩ := hf it (by simp)
    obtain ⟨hs, o, des, hgd, hx, hdt, hsz, ent⟩ := dicO_at I.hok hd
    obtain ⟨en, hen, hkey⟩ := ent i es[i] (List.getElem?_eq_getElem hi)
    refine next_key_item st hgd hdt hsz hen fun h' st' sb => ?_
    have I1 : L2.Inv X pins σ H { s with heap := h' } := I.turned (t' := s.toks) (fun b ob hb e => (sb.2 b hb).trans e) f0 f1 f3 f4 f5
    obtain ⟨oi, e, c, dd⟩ := id st'
    exact ⟨en.key, rfl, go_of (s := { s with heap := h' }) e c dd (by decide) ⟨.ref es[i].2.1, H, I1, hkey, ⟨rfl, es[i], List.getElem?_eq_getElem hi, rfl⟩, st', fun b hb => (hf b hb).1⟩⟩
  done := by
    intro X hP hw hK hc i pins s σ H E I hf st hg
    subst hP hw hK
    obtain ⟨hd, hi⟩ := hg
    obtain ⟨f0, f1, f2, f3, f4, f5⟩ := hf it (by simp)
    obtain ⟨hs, o, des, hgd, hx, hdt, hsz, ent⟩ := dicO_at I.hok hd
    exact next_key_end (I.ok.hd hc) st hgd hdt hsz hi fun h' eb => ⟨rfl, I.turned (t' := s.toks) (fun b ob hb e => eb b ob hb e) f0 f1 f3 f4 f5⟩
  self := fun A i s Q E st h => by
    refine wpAny_pyIter_slot st.typeIs F.slot_dict_keyiterator_iter (wpAny_call_entry F.slot_dict_keyiterator_iter st.typeIs F.entry_dict_keyiterator_iter ?_ (F.args_dict_keyiterator_iter_1 _))
    show wpAny _ _ (ret (.ref it)) _ _ s
    exact wpAny_pure ⟨_, rfl, "dict_keyiterator", _, st.typeIs, F.slot_dict_keyiterator_next.lookup, h⟩
def iKeysO (w : World) (td : TE) : TI := fun σ H R => td σ H fun x H1 => ∃ d es ep, x = .ref d ∧ H1 d = some (dicO w d es ep) ∧ R (Itko w d es ep) H1
theorem pi_keysO {X : Cx} {tg e : Expr} {td : TE} (he : PE X e td) : PI X tg e (iKeysO X.w td) := by
  refine ⟨fun pins s σ H R I h => ?_⟩
  refine thn (he.run pins s σ H _ I h) fun u s1 ⟨x, H1, I1, rx, d, es, ep, ex, hd, q⟩ => ?_
  subst ex
  obtain rfl : u = Value.ref d := rx
  obtain ⟨hs, o, des, hgd, hx, hdt, hsz, ent⟩ := dicO_at I1.hok hd
  refine iter_keys hs hgd hx hdt (pi_one (tk := s1.toks) I1 _ (turn_keysO _) ⟨_, Heap.get?_push_size _ rfl, rfl, ?_⟩ q)
  rw [hsz] <;> rfl
section
variable {X : Cx} {C : Cc} {tg e : Expr} {p pos pos' apos cpos : Pos}
theorem ItOk.dic {C : Cc} {d : Addr} {es : List Ent} {ep : Nat} : ∀ {kvs : List (D × D)} {es2 : List Ent} {i : Nat} {H : Hp} {F : Addr → Prop}, H d = some (dicO C.w d es ep) → F d → es.drop i = es2 → RpK C.w C.K H F es2 kvs → ItOk C (Itko C.w d es ep) i H F (kvs.map (·.1))
  | [], es2, i, H, F, hd, hf, ed, x => fun H' F' k => by
    cases x
    exact ⟨k.keep.own _ _ hf hd, by simpa using ed⟩
  | kv :: kvs, es2, i, H, F, hd, hf, ed, x => fun H' F' k => by
    cases x with
    | cons h1 h2 h3 h4 h5 h6 =>
      rename_i nk b v es3 dk dv
      have hd' := k.keep.own _ _ hf hd
      have hi : es[i]? = some (nk, b, v) := by
        have := congrArg List.head? ed
        rwa [List.head?_drop] at this
      have hr : es.drop (i + 1) = es3 := by rw [← List.drop_drop, ed]; rfl
      refine ⟨⟨hd', (List.getElem?_eq_some_iff.mp hi).1⟩, fun u H'' hy => ?_⟩
      obtain ⟨rfl, e, he, rfl⟩ := hy
      rw [hi] at he; cases he
      exact ⟨Le.refl, k.rp (C := C) h4, ItOk.dic hd' (k.ff _ hf) hr (RpK.mono k.keep k.ff _ _ h6)⟩
def iD (m : OM) : LM := fun ρ => eb (m ρ) fun d => match d with
  | .dict kvs => ok (kvs.map (·.1))
  | _ => none
theorem DI.dict (k : Cok X C) {m : OM} (h : DV X C e m) : DI X C tg e (iD m) := PI.imp (pi_keysO h) fun σ H R q => by
  refine ei_V q fun ρ F d s hy hx hr v H' F' g x => ?_
  obtain ⟨r, hr⟩ := hr
  cases d <;> try cases hr
  cases x with
  | dic h1 h2 h3 => exact ⟨_, _, _, rfl, by rw [← k.w]; exact h1, by have := hy _ rfl _ H' F' g (ItOk.dic h1 h2 rfl h3); rwa [k.w] at this⟩
/-! ### x.pop(k), the value dropped -/
def sDPop (i : Nat) (km : OM) : SM := fun ρ => match regD ρ i with
  | none => none
  | some kvs => sb km (fun ρ dk => match kOf dk with
    | some k => if (dFind kvs k).isSome = true then some (.nx (ρ.set i (some (.ownD (dDrop kvs k))))) else none
    | none => none) ρ
theorem DS.dpop (k : Cok X C) {i : Nat} {x : Str} {ix : Expr} {km : OM} (hN : X.N[i]? = some x) (hv : Vis X.env.scope x) (hd : (x == ("__debug__" : Str)) = false) (hcd : (x == ("__classdict__" : Str)) = false) (hk : DV X C ix km)
    (hbase : attributeBase (.Name x p) "pop" X.env (eval (.Name x p) X.env) = eval (.Name x p) X.env := by rfl)
    (hfew : ((backTo cpos (starEach [ix] X.env)).all (fun x => !x.1) && (backToKw cpos (keywordEach [] X.env)).all (fun x => x.1.isSome)
      && decide ([ix].length + ([] : List Keyword).length + (if ([] : List Keyword).isEmpty then 0 else 1) < 30)) = true := by rfl)
    (hline : (apos.endLine == cpos.line) = true := by rfl) (hs : starEach [ix] X.env = (false, eval ix X.env) :: starEach [] X.env := by rfl) (hplain : (backTo cpos (starEach [] X.env)).any (·.1) = false := by rfl)
    (hs2 : swapsWith (.Call (.Attribute (.Name x p) "pop" apos) [ix] [] cpos) none pos.line X.env = pure false := by rfl) :
    DS X C (.Expr (.Call (.Attribute (.Name x p) "pop" apos) [ix] [] cpos) pos) (sDPop i km) := PS.imp (ps_expr (pe_dpopO k (pe_var hN hv hd hcd) hk hbase hfew hline hs hplain) hs2) fun En σ H q => by
  obtain ⟨ρ, F, o, s, e, w⟩ := q
  unfold sDPop at e
  cases hr : regD ρ i with
  | none => rw [hr] at e; cases e
  | some kvs =>
    simp only [hr] at e
    obtain ⟨a, es, ep, ea, ow, hH, hf, h0, hk⟩ := s.regD hr
    refine ⟨_, ea, ⟨a, es, ep, kvs, F, rfl, hH, hk⟩, ?_⟩
    refine sb_V s e w fun dk hm2 e2 vk H2 F2 g2 xk => ?_
    cases hko : kOf dk with
    | none => simp only [hko] at e2; cases e2
    | some kk =>
      simp only [hko] at e2
      by_cases hl : (dFind kvs kk).isSome = true
      case neg => rw [if_neg hl] at e2; cases e2
      rw [if_pos hl] at e2
      cases e2
      obtain ⟨b, rfl⟩ := xk.key_ref hko
      obtain ⟨a', es', ep', ea', ow2, hH2, hf2, h02, hk2⟩ := g2.sr.regD hr
      rw [ea] at ea'; cases ea'
      rcases hk2.find (k := kk) with ⟨z1, z2⟩ | ⟨v', d', z1, z2, _⟩
      · rw [z2] at hl; cases hl
      · refine ⟨a, b, es', ep', kvs, kk, dk, v', F2, rfl, hH2, hk2, rfl, xk, hko, z1, fun ep2 => ?_⟩
        have kp : Keep F2 H2 (upd H2 a (dicO C.w a (eDrop es' kk) ep2)) := Keep.upd hH2 True.intro hf2
        obtain ⟨s3, k3⟩ := g2.sr.own_upd (o := dicO C.w a (eDrop es' kk) ep2) (rv := .ownD (dDrop kvs kk)) ow2 rfl ⟨a, _, ep2, rfl, upd_same, hf2, h02, RpK.mono kp (fun _ z => z) _ _ hk2.drop⟩
        exact w _ _ F2 (g2.kp.trans k3) s3
/-! ### x.append(e) -/
def sApp (i : Nat) (m : OM) : SM := fun ρ => match regL ρ i with
  | none => none
  | some ds => sb m (fun ρ d => if ds.length < 1000 then some (.nx (ρ.set i (some (.ownL (ds ++ [d]))))) else none) ρ
theorem DS.app {i : Nat} {x : Str} {ix : Expr} {m : OM} (hN : X.N[i]? = some x) (hv : Vis X.env.scope x) (hd : (x == ("__debug__" : Str)) = false) (hcd : (x == ("__classdict__" : Str)) = false) (h : DV X C ix m)
    (hbase : attributeBase (.Name x p) "append" X.env (eval (.Name x p) X.env) = eval (.Name x p) X.env := by rfl)
    (hfew : ((backTo cpos (starEach [ix] X.env)).all (fun x => !x.1) && (backToKw cpos (keywordEach [] X.env)).all (fun x => x.1.isSome)
      && decide ([ix].length + ([] : List Keyword).length + (if ([] : List Keyword).isEmpty then 0 else 1) < 30)) = true := by rfl)
    (hline : (apos.endLine == cpos.line) = true := by rfl) (hs : starEach [ix] X.env = (false, eval ix X.env) :: starEach [] X.env := by rfl) (hplain : (backTo cpos (starEach [] X.env)).any (·.1) = false := by rfl)
    (hs2 : swapsWith (.Call (.Attribute (.Name x p) "append" apos) [ix] [] cpos) none pos.line X.env = pure false := by rfl) :
    DS X C (.Expr (.Call (.Attribute (.Name x p) "append" apos) [ix] [] cpos) pos) (sApp i m) :=
  PS.imp (ps_expr (pe_bm (T := "list") F.plainAttrs_list F.slot_list_append F.type_list_append (mt_append (X := X)) (pe_var hN hv hd hcd) (pa_cons (X := X) h pa_nil hs) hbase hfew hline hs hplain) hs2) fun En σ H q => by
  obtain ⟨ρ, F, o, s, e, w⟩ := q
  unfold sApp at e
  cases hr : regL ρ i with
  | none => rw [hr] at e; cases e
  | some ds =>
    simp only [hr] at e
    obtain ⟨a, xs, ea, ow, hH, hf, h0, hk⟩ := s.regL hr
    refine ⟨_, ea, .inl ⟨rfl, xs, .inl (.inl hH)⟩, ?_⟩
    refine sb_V s e w fun d hm2 e2 vk H2 F2 g2 xk => ?_
    by_cases hl : ds.length < 1000
    case neg => rw [if_neg hl] at e2; cases e2
    rw [if_pos hl] at e2
    cases e2
    obtain ⟨a', xs', ea', ow2, hH2, hf2, h02, hk2⟩ := g2.sr.regL hr
    rw [ea] at ea'; cases ea'
    refine ⟨a, xs', vk, rfl, rfl, hH2, by rw [hk2.length, sizeLine_eq]; omega, ?_⟩
    have kp : Keep F2 H2 (upd H2 a (.lst (xs' ++ [vk]))) := Keep.upd hH2 True.intro hf2
    obtain ⟨s3, k3⟩ := g2.sr.own_upd (o := .lst (xs' ++ [vk])) (rv := .ownL (ds ++ [d])) ow2 rfl ⟨a, _, rfl, upd_same, hf2, h02, RpA.mono kp (fun _ z => z) _ _ (RpA.append hk2 (.cons xk .nil))⟩
    exact w _ _ F2 (g2.kp.trans k3) s3
/-! ### y = x.pop() -/
def sPopTo (j i : Nat) : SM := fun ρ => match regL ρ i with
  | none => none
  | some ds => match ds.reverse with
    | [] => none
    | d :: r => if j = i then none else some (.nx ((ρ.set i (some (.ownL r.reverse))).set j (some (.val d))))
theorem DS.popTo {i j : Nat} {x y : Str} {py : Pos} (hNd : X.N.Nodup) (hy : X.N[j]? = some y) (hyl : Loc X.env.scope y) (hN : X.N[i]? = some x) (hv : Vis X.env.scope x) (hd : (x == ("__debug__" : Str)) = false) (hcd : (x == ("__classdict__" : Str)) = false) (hfx : C.fx j = none := by rfl)
    (hbase : attributeBase (.Name x p) "pop" X.env (eval (.Name x p) X.env) = eval (.Name x p) X.env := by rfl)
    (hline : (apos.endLine == cpos.line) = true := by rfl) (hs : swapsWith (.Call (.Attribute (.Name x p) "pop" apos) [] [] cpos) (some (.Name y py)) pos.line X.env = pure false := by rfl) (hl : X.fn y = true ∨ X.env.scope.names.lookup y = some .local := by first | exact .inl rfl | exact .inr rfl | assumption) :
    DS X C (.Assign [.Name y py] (.Call (.Attribute (.Name x p) "pop" apos) [] [] cpos) pos) (sPopTo j i) :=
  PS.imp (ps_set hNd hy hyl (pe_bm0 (T := "list") F.plainAttrs_list F.slot_list_pop F.type_list_pop (mt_pop (X := X)) (pe_var hN hv hd hcd) hbase hline) hs hl) fun En σ H q => by
  obtain ⟨ρ, F, o, s, e, w⟩ := q
  unfold sPopTo at e
  cases hr : regL ρ i with
  | none => rw [hr] at e; cases e
  | some ds =>
    simp only [hr] at e
    obtain ⟨a, xs, ea, ow, hH, hf, h0, hk⟩ := s.regL hr
    cases hrev : ds.reverse with
    | nil => rw [hrev] at e; cases e
    | cons d r =>
      simp only [hrev] at e
      by_cases hji : j = i
      · rw [if_pos hji] at e; cases e
      · rw [if_neg hji] at e
        cases e
        have hds : ds = r.reverse ++ [d] := by rw [← List.reverse_reverse ds, hrev]; simp
        have hlen := hk.length
        have hx : xs.length = r.length + 1 := by rw [hlen, hds]; simp
        obtain ⟨v, hv1, hv2⟩ := hk.get (i := r.length) (d := d) (by rw [hds]; simp)
        refine ⟨_, ea, .inl ⟨rfl, xs, .inl (.inl hH)⟩, a, xs, v, rfl, rfl, hH, by rw [hx]; exact hv1, ?_⟩
        have hdl : RpA C.w C.K H F xs.dropLast r.reverse := by
          have := hk.take r.length
          rw [hds] at this
          rw [List.dropLast_eq_take, hx]
          simpa using this
        have kp : Keep F H (upd H a (.lst xs.dropLast)) := Keep.upd hH True.intro hf
        obtain ⟨s3, k3⟩ := s.own_upd (o := .lst xs.dropLast) (rv := .ownL r.reverse) ow rfl ⟨a, _, rfl, upd_same, hf, h0, RpA.mono kp (fun _ z => z) _ _ hdl⟩
        exact w _ _ F k3 (s3.vals (k3.rp (C := C) hv2) hfx)
end
end TS
/-! T13: {k: v for t in l if c}, the keys tuples -/
namespace TS
open PySem PySem.Spec PyProof.Rows L2

section
variable {X : Cx}
/-- the reading: the new dict at Da -/
def tDcO (wk : World) (Kk : Frg) (wi : TI) (g : TG) (tt : TT) (tk tv : TE) (vs : List Nat) : TE := fun σ H Q => wi σ H fun J H1 => ∀ Da, H1 Da = none → ∃ W : Nat → Nat → Hp → Prop, (∃ m, W 0 m (upd H1 Da (dicO wk Da [] 0))) ∧ ∀ i m H, W i m H →
  (J.stop i H ∧ Q (.ref Da) H) ∨ (J.go i H ∧ ∃ Nx : Hp → Prop, (∀ H', Nx H' → ∃ m', m' < m ∧ W (i + 1) m' H') ∧ ∀ x H', J.yld i H x H' → g x (L2.wipe σ vs) H' fun σ2 H2 => L2.wipe σ2 vs = L2.wipe σ vs ∧ tt σ2 H2 fun b H3 =>
    if b = true then tk σ2 H3 fun y H4 => tv σ2 H4 fun z H5 => ∃ b es ep kvs k dk F, y = .ref b ∧ H5 Da = some (dicO wk Da es ep) ∧ RpK wk Kk H5 F es kvs ∧ Rp wk Kk H5 F (.ref b) dk ∧ kOf dk = some k ∧ es.length < sizeLine ∧ ∀ ep', Nx (upd H5 Da (dicO wk Da (ePut es k b z) ep')) else Nx H3)
theorem dcO_core {C : Cc} (kc : Cok X C) {pins : List (Addr × Obj)} {s : Shared} {σ : L2.St} {H : Hp} {Q : VK} {kx vx tg iter : Expr} {ifs : List Expr} {scope : Scope} {own : List (Str × Nat)} {pos pos' : Pos} {wi : TI} {g : TG} {tt : TT} {tk tv : TE} {use : Option (Value → Sem Unit)} {Qf : Value → Shared → Prop}
    (hc : X.calm = true) (I : L2.Inv X pins σ H s) (hi : PI X tg iter wi) (ok : BlkOk X.N X.env.scope scope own)
    (hg : ∀ (s : Shared) (H : Hp) (c : Addr) (cl : List (Str × Addr)) (fp : List Addr), PG (BlkX X s H scope c cl fp) tg g) (ht : ∀ (s : Shared) (H : Hp) (c : Addr) (cl : List (Str × Addr)) (fp : List Addr), PTs (BlkX X s H scope c cl fp) ifs tt)
    (hk : ∀ (s : Shared) (H : Hp) (c : Addr) (cl : List (Str × Addr)) (fp : List Addr), PE (BlkX X s H scope c cl fp) kx tk)
    (he : ∀ (s : Shared) (H : Hp) (c : Addr) (cl : List (Str × Addr)) (fp : List Addr), PE (BlkX X s H scope c cl fp) vx tv) (hs : ∀ x, foldedSetIterable iter X.env x = pure x)
    (h : tDcO X.w X.K wi g tt tk tv (own.map (·.2)) σ H Q)
    (hRR : ∀ Da c s' m H', L2.Inv X pins σ H' s' → Q (.ref Da) H' → s'.heap.Ns c m → FpOk X pins H' c → compPost (model X.prog X.w) X.A X.xe use Qf (.ref Da) c (.ok .next) s') :
    wpAny (model X.prog X.w) X.A (comprehension (.DictComp kx vx [⟨tg, iter, ifs, 0⟩] scope pos) scope X.env pos' newDict false (eval iter X.env) use) Qf X.xe s := by
  have hfree : ∀ y ∈ scope.names, y.2 = .free → ∃ c, X.env.cells.lookup y.1 = some c := fun y hy e => (ok.free y hy e).elim (fun k => I.ok.has _ (.inl k)) (fun k => I.ok.has _ (.inr k))
  refine wpAny_comprehension_free (use := use) rfl hs (closure_ok hfree) ok.kind (fun y hy e => by rw [ok.uniq y hy, e]) (thn (hi.run pins s σ H _ I h) fun xv s1 hx => thn hx fun itv s2 h2 => ?_)
  obtain ⟨it, fp, tn, J, H2, e, I2, T, st2, f2, q⟩ := h2
  subst e
  refine wpAny_newObj_type (newEnv_comp ?_)
  generalize hD : s2.heap.objs.size = Da
  obtain ⟨W, ⟨m0, w0⟩, turn⟩ := q Da (I2.hok.fresh (Nat.le_of_eq hD))
  generalize hs3 : ({ s2 with heap := s2.heap.push { cls := .type "dict", data := .dict #[] } } : Shared) = s3
  have I3 : L2.Inv X pins σ (upd H2 Da (dicO X.w Da [] 0)) s3 := by
    rw [← hs3]
    refine I2.laid (t' := s2.toks) (fun b o e => Heap.get?_push_of_some _ e) (Nat.le_of_eq hD) ?_
    rw [← hD]
    exact dicO_empty s2.heap I2.big
  have h3 : s3.heap = s2.heap.push { cls := .type "dict", data := .dict #[] } := by rw [← hs3]
  have f3 : ∀ b ∈ fp, FpOk X pins (upd H2 Da (dicO X.w Da [] 0)) b ∧ b < s3.heap.objs.size := fun b hb => by
    obtain ⟨o, e, _⟩ := T.obj _ _ st2 b hb
    have hlt := Heap.lt_size e
    refine ⟨⟨?_, (f2 b hb).2⟩, by rw [h3, Heap.size_push]; exact Nat.lt_succ_of_lt hlt⟩
    rw [upd_ne (by rw [← hD]; exact Nat.ne_of_lt hlt)]
    exact (f2 b hb).1
  have st3 : tn 0 s3.heap := T.keep _ _ _ st2 fun b _ o e => by rw [h3]; exact Heap.get?_push_of_some _ e
  have I4 := block_start I3 ok kc.nd f3
  have pg := hg s3 (upd H2 Da (dicO X.w Da [] 0)) s3.heap.objs.size (cellsFrom (s3.heap.objs.size + 1) scope.names (cloFrom X.env.cells scope.names [])) fp
  have pt := ht s3 (upd H2 Da (dicO X.w Da [] 0)) s3.heap.objs.size (cellsFrom (s3.heap.objs.size + 1) scope.names (cloFrom X.env.cells scope.names [])) fp
  have pk := hk s3 (upd H2 Da (dicO X.w Da [] 0)) s3.heap.objs.size (cellsFrom (s3.heap.objs.size + 1) scope.names (cloFrom X.env.cells scope.names [])) fp
  have pe := he s3 (upd H2 Da (dicO X.w Da [] 0)) s3.heap.objs.size (cellsFrom (s3.heap.objs.size + 1) scope.names (cloFrom X.env.cells scope.names [])) fp
  show codeAny _ _ (.compStart (.DictComp kx vx [⟨tg, iter, ifs, 0⟩] scope pos) 0 (.ref it) (.ref Da) (compEnvC scope (cellsFrom (s3.heap.objs.size + 1) scope.names (cloFrom X.env.cells scope.names [])) s3.heap.objs.size X.env)) (compPost (model X.prog X.w) X.A X.xe use Qf (.ref Da) s3.heap.objs.size) { s3 with heap := pushCells (s3.heap.push { cls := .type "dict", data := .dict #[] }) scope.names }
  have nfp : ∀ b ∈ fp, (upd H2 Da (dicO X.w Da [] 0)) b = none := fun b hb => (f3 b hb).1.1
  unfold BlkX at pg pt pk pe
  generalize hce : compEnvC scope (cellsFrom (s3.heap.objs.size + 1) scope.names (cloFrom X.env.cells scope.names [])) s3.heap.objs.size X.env = ce at I4 pg pt pk pe ⊢
  have cL : ce.locals = s3.heap.objs.size := by subst hce; rfl
  generalize hH3 : upd H2 Da (dicO X.w Da [] 0) = H3 at I3 I4 pg pt pk pe w0 nfp f3
  generalize hs4 : ({ s3 with heap := pushCells (s3.heap.push { cls := .type "dict", data := .dict #[] }) scope.names } : Shared) = s4 at I4 ⊢
  have st4 : tn 0 s4.heap := T.keep _ _ _ st3 fun b _ o e => by rw [← hs4]; exact pushCells_keeps _ _ _ _ (Heap.get?_push_of_some _ e)
  have stat : ∀ {σ' : L2.St} {H' : Hp} {s' : Shared}, L2.Inv (X.blk s3 H3 scope ce fp) [] σ' H' s' → (∀ b ∈ fp, H' b = none) → ∀ b ∈ fp, FpOk (X.blk s3 H3 scope ce fp) [] H' b := fun {σ' H' s'} I' hn b hb =>
    ⟨hn b hb, (I'.ok.exf b hb).1, I'.ok.exfs b hb, .inl hb, fun x c e => (I'.ok.exf b hb).2 x c e, fun p hp => absurd (show p ∈ ([] : List (Addr × Obj)) ++ [] from hp) (by simp)⟩
  have loop : codeAny (model X.prog X.w) X.A (.compLoop (.DictComp kx vx [⟨tg, iter, ifs, 0⟩] scope pos) 0 (.ref it) (.ref Da) ce) (compPost (model X.prog X.w) X.A X.xe use Qf (.ref Da) s3.heap.objs.size) s4 := by
    refine compLoop_anyD (fun n s' => ∃ i H', L2.Inv (X.blk s3 H3 scope ce fp) [] (L2.wipe σ (own.map (·.2))) H' s' ∧ tn i s'.heap ∧ (∀ b ∈ fp, H' b = none) ∧ W i n H') ?_ m0 ⟨0, H3, I4, st4, nfp, w0⟩
    rintro n s5 ⟨i, H5, I5, st5, n5, w5⟩
    rcases turn i n H5 w5 with ⟨stop, qq⟩ | ⟨go, Nx, hNx, step⟩
    · refine thnF (T.done (X.blk s3 H3 scope ce fp) rfl rfl rfl hc i [] s5 _ H5 (fun _ _ => False) I5 (stat I5 n5) st5 stop) fun r s6 ⟨hr, I6⟩ => ?_
      subst hr
      have I7 : L2.Inv X pins σ H5 s6 := I3.call' (ch := fp) I6.os I6.base I6.hok I6.bare fun b hb => ⟨(f3 b hb).1.2.2.2.1, (f3 b hb).1.2.1, (f3 b hb).1.2.2.2.2.1, (f3 b hb).1.2.2.2.2.2⟩
      have nC : H5 s3.heap.objs.size = none := cL ▸ (show H5 ce.locals = none from I6.free)
      obtain ⟨m, hn, _⟩ := I6.loc
      exact hRR Da s3.heap.objs.size s6 m H5 I7 qq (cL ▸ (show s6.heap.Ns ce.locals m from hn)) (I3.fpOk (Nat.le_refl _) nC)
    · refine thnF (T.item (X.blk s3 H3 scope ce fp) rfl rfl rfl hc i [] s5 _ H5 (fun _ _ => False) I5 (stat I5 n5) st5 go) fun r s6 ⟨u, hr, h6⟩ => ?_
      subst hr
      refine thnF h6 fun _ s7 ⟨x, H7, I7, r7, y7, st7, n7⟩ => ?_
      refine thnF (pg.run _ s7 _ H7 x u _ (I7.pinned (stat I7 n7) (T.obj _ _ st7)) r7 (step x H7 y7)) fun _ s8 ⟨σ8, H8, I8, hw8, q8⟩ => ?_
      refine thnF (pt.run _ s8 σ8 H8 _ I8 q8) fun b s9 ⟨H9, I9, q9⟩ => ?_
      have fin : ∀ {s' : Shared} {H' : Hp}, L2.Inv (X.blk s3 H3 scope ce fp) ([] ++ pinsAt fp s7.heap) σ8 H' s' → Nx H' → ∃ m, m < n ∧ ∃ i H', L2.Inv (X.blk s3 H3 scope ce fp) [] (L2.wipe σ (own.map (·.2))) H' s' ∧ tn i s'.heap ∧ (∀ b ∈ fp, H' b = none) ∧ W i m H' := fun {s' H'} I' nx => by
        obtain ⟨m', hm, w'⟩ := hNx H' nx
        have pin' : ∀ b ∈ fp, ∀ o, s7.heap.get? b = some o → s'.heap.get? b = some o ∧ H' b = none := fun b hb o e =>
          let z := I'.pin (b, o) (List.mem_append_right _ (List.mem_append_right _ (mem_pinsAt hb e)))
          ⟨z.1, z.2.1⟩
        have hl : (L2.wipe σ (own.map (·.2))).length = σ8.length := by rw [← hw8, wipe_length]
        refine ⟨m', hm, i + 1, H', (I'.unpinned (pins := [])).weak hl (fun j v e => ?_), T.keep _ _ _ st7 fun b hb o e => (pin' b hb o e).1, fun b hb => ?_, w'⟩
        · rw [← hw8] at e
          exact (wipe_some e).1
        · obtain ⟨o, e, _⟩ := T.obj _ _ st7 b hb
          exact (pin' b hb o e).2
      cases b with
      | false =>
        simp only [Bool.false_eq_true, if_false] at q9 ⊢
        exact fin I9 q9
      | true =>
        simp only [if_true] at q9 ⊢
        refine thnF (pk.run _ s9 σ8 H9 _ I9 q9) fun z s10 ⟨yk, H10, I10, r10, q10⟩ => ?_
        refine thnF (pe.run _ s10 σ8 H10 _ I10 q10) fun z2 s11 ⟨yv, H11, I11, r11, b, es, ep, kvs, k, dk, F, ek, hD11, hk11, hb11, hko, hz11, nx⟩ => ?_
        subst ek
        cases r10
        have hu : (nestedKind X.prog X.w).room X.A := by
          have := kc.un
          show X.A.units + 8 < cLine
          omega
        exact d_dictSetO (X := X.blk s3 H3 scope ce fp) (A := X.A) I11 hu hD11 hk11 hb11 hko hz11 r11 fun ep' s12 I12 => fin I12 (nx ep')
  exact codeAny_compStart_dict loop (T.self X.A 0 _ _ _ st4 loop)
theorem pe_dcO {C : Cc} (kc : Cok X C) {kx vx tg iter : Expr} {ifs : List Expr} {scope : Scope} {own : List (Str × Nat)} {pos : Pos} {wi : TI} {g : TG} {tt : TT} {tk tv : TE} (hc : X.calm = true) (hi : PI X tg iter wi) (ok : BlkOk X.N X.env.scope scope own)
    (hg : ∀ (s : Shared) (H : Hp) (c : Addr) (cl : List (Str × Addr)) (fp : List Addr), PG (BlkX X s H scope c cl fp) tg g) (ht : ∀ (s : Shared) (H : Hp) (c : Addr) (cl : List (Str × Addr)) (fp : List Addr), PTs (BlkX X s H scope c cl fp) ifs tt)
    (hk : ∀ (s : Shared) (H : Hp) (c : Addr) (cl : List (Str × Addr)) (fp : List Addr), PE (BlkX X s H scope c cl fp) kx tk)
    (he : ∀ (s : Shared) (H : Hp) (c : Addr) (cl : List (Str × Addr)) (fp : List Addr), PE (BlkX X s H scope c cl fp) vx tv) (hs : ∀ x, foldedSetIterable iter X.env x = pure x := by intro _; rfl) :
    PE X (.DictComp kx vx [⟨tg, iter, ifs, 0⟩] scope pos) (tDcO X.w X.K wi g tt tk tv (own.map (·.2))) := by
  refine ⟨fun pins s σ H Q I h => ?_⟩
  rw [arm_eval_DictComp]
  refine dcO_core kc hc I hi ok hg ht hk he hs h fun Da c s' m H' I' q hn f => ⟨m, hn, fun h'' sb => ?_⟩
  obtain ⟨f0, f1, f2, f3, f4, f5⟩ := f
  exact ⟨.ref Da, H', I'.turned (t' := s'.toks) (fun b o hb e => (sb.2 b hb).trans e) f0 f1 f3 f4 f5, rfl, q⟩
end
/-! ### its meaning -/
def mDc (t : Tgt) (vs : List Nat) (c : BM) (km vm : OM) (ρ : Regs) : List D → List (D × D) → Option (List (D × D))
  | [], acc => some acc
  | d :: ds, acc => match tgtM t d (wipeR ρ vs) with
    | none => none
    | some ρ1 => match c ρ1 with
      | some (.inl true) => match km ρ1 with
        | some (.inl dk) => match vm ρ1 with
          | some (.inl x) => match kOf dk with
            | some k => if acc.length < 1000 then mDc t vs c km vm ρ ds (dPut acc k dk x) else none
            | none => none
          | _ => none
        | _ => none
      | some (.inl false) => mDc t vs c km vm ρ ds acc
      | _ => none
def eDc (t : Tgt) (vs : List Nat) (it : LM) (c : BM) (km vm : OM) : EM := fun ρ => eb (it ρ) fun ds => if plainAt ρ vs = true then (match mDc t vs c km vm ρ ds [] with
  | some kvs => ok (.ownD kvs)
  | none => none) else none
section
variable {X : Cx} {C : Cc} {kx vx tg iter : Expr} {ifs : List Expr} {scope : Scope} {own : List (Str × Nat)} {pos : Pos} {t : Tgt} {it : LM} {c : BM} {km vm : OM}
theorem dc_imp (k : Cok X C) {own : List Nat} {σ : L2.St} {H : Hp} {Q : VK} (hsl : ∀ i ∈ t.slots, i ∈ own) (q : tE C X.mg (eDc t own it c km vm) σ H Q) : tDcO X.w X.K (tI C X.mg it) (gOf X.K t) (tBx C X.mg c) (tVx C X.mg km) (tVx C X.mg vm) own σ H Q := by
  generalize own = vs at hsl q ⊢
  refine ei_I q fun ρ F ds s hy hx hr J H1 F1 g hit Da hDa => ?_
  obtain ⟨r, hr⟩ := hr
  by_cases hpl : plainAt ρ vs = true
  case neg => rw [if_neg hpl] at hr; cases hr
  rw [if_pos hpl] at hy hr
  cases hm : mDc t vs c km vm ρ ds [] with
  | none => rw [hm] at hr; cases hr
  | some all =>
    rw [hm] at hy hr
    have hY := hy _ rfl
    have no1 : ∀ i, ¬ Own σ ρ i Da := g.sr.not_own hDa
    have nF1 : ¬ F1 Da := g.sr.freshF hDa
    have h01 : C.H0 Da = none := g.sr.fresh0 hDa
    have ew : X.w = C.w := k.w.symm
    refine ⟨fun i m H2 => ∃ F2 ds2 es ep acc, m = ds2.length ∧ Le H1 H2 ∧ Kp H1 F1 H2 F2 ∧ SR C H2 F2 σ ρ ∧ H2 Da = some (dicO C.w Da es ep) ∧ ¬ F2 Da ∧ RpK C.w C.K H2 F2 es acc ∧ mDc t vs c km vm ρ ds2 acc = some all ∧ ItOk C J i H2 F2 ds2, ?_, ?_⟩
    · have kn : Kp H1 F1 (upd H1 Da (dicO X.w Da [] 0)) F1 := (Le.new hDa).kp
      exact ⟨ds.length, F1, ds, [], 0, [], rfl, Le.new hDa, kn, g.sr.le (Le.new hDa), by rw [← ew]; exact upd_same, nF1, .nil, hm, hit.kp kn⟩
    rintro i m H2 ⟨F2, ds2, es, ep, acc, rfl, le2, kp2, s2, hD2, nF2, ra2, hm2, it2⟩
    cases ds2 with
    | nil =>
      cases hm2
      refine .inl ⟨it2 H2 F2 .refl, ?_⟩
      exact hY _ H2 F2 ⟨g.le.trans le2, fun a h => kp2.ff a (g.ff a h), s2, g.sr0⟩ ⟨⟨Da, es, ep, rfl, hD2, nF2, h01, ra2⟩, fun _ => ⟨Da, rfl, by
        cases q : H Da with
        | none => rfl
        | some o => have := g.le _ _ q; rw [hDa] at this; cases this⟩⟩
    | cons d ds2 =>
      obtain ⟨go, nxt⟩ := it2 H2 F2 .refl
      unfold mDc at hm2
      cases ht1 : tgtM t d (wipeR ρ vs) with
      | none => rw [ht1] at hm2; cases hm2
      | some ρ1 =>
        simp only [ht1] at hm2
        refine .inr ⟨go, fun H3 => ∃ F3 es ep acc, Le H1 H3 ∧ Kp H1 F1 H3 F3 ∧ SR C H3 F3 σ ρ ∧ H3 Da = some (dicO C.w Da es ep) ∧ ¬ F3 Da ∧ RpK C.w C.K H3 F3 es acc ∧ mDc t vs c km vm ρ ds2 acc = some all ∧ ItOk C J (i + 1) H3 F3 ds2,
          fun H3 ⟨F3, es, ep, acc, h⟩ => ⟨ds2.length, Nat.lt_succ_self _, F3, ds2, es, ep, acc, rfl, h⟩, fun x H3 y => ?_⟩
        obtain ⟨le3, x3, it3⟩ := nxt x H3 y
        have s3 := s2.le le3
        have hD3 : H3 Da = some (dicO C.w Da es ep) := le3 _ _ hD2
        have b3 : Blk C (blkC C H3 F2 σ ρ) := blkC_ok
        have sb3 : SR (blkC C H3 F2 σ ρ) H3 F2 (L2.wipe σ vs) (wipeR ρ vs) := (s3.blk).wipe vs fun _ => rfl
        refine gOf_ok (C := blkC C H3 F2 σ ρ) k.K sb3 x3 ht1 (fun _ _ => rfl) fun σ4 s4 hw4 => ?_
        have hw4 : L2.wipe σ4 vs = L2.wipe σ vs := by rw [hw4 vs hsl, wipe_wipe]
        have sl4 := slots_back hsl ht1 hw4
        refine ⟨hw4, ?_⟩
        cases hc1 : c ρ1 with
        | none => simp only [hc1] at hm2; cases hm2
        | some rc =>
          cases rc with
          | inr z => simp only [hc1] at hm2; cases hm2
          | inl b =>
            refine ⟨blkC C H3 F2 σ ρ, fun _ => rfl, b3, ρ1, F2, _, s4, hc1, fun H5 F5 g5 => ?_⟩
            cases b with
            | false =>
              simp only [hc1] at hm2
              exact ⟨F5, es, ep, acc, (le2.trans le3).trans g5.le, (kp2.trans le3.kp).trans g5.kp, s3.back g5.sr g5.le g5.ff hpl sl4, g5.le _ _ hD3, g5.sr.not_F hD3 nF2 no1, RpK.mono (g5.kp.keep) g5.ff _ _ (RpK.mono le3.keep (fun _ z => z) _ _ ra2), hm2, it3.kp g5.kp⟩
            | true =>
              simp only [hc1] at hm2
              cases hk1 : km ρ1 with
              | none => simp only [hk1] at hm2; cases hm2
              | some rk =>
                cases rk with
                | inr z => simp only [hk1] at hm2; cases hm2
                | inl dk =>
                  simp only [hk1] at hm2
                  refine ⟨blkC C H3 F2 σ ρ, fun _ => rfl, b3, ρ1, F5, _, g5.sr, hk1, fun yk H6 F6 g6 x6 => ?_⟩
                  cases he1 : vm ρ1 with
                  | none => simp only [he1] at hm2; cases hm2
                  | some re =>
                    cases re with
                    | inr z => simp only [he1] at hm2; cases hm2
                    | inl xd =>
                      simp only [he1] at hm2
                      refine ⟨blkC C H3 F2 σ ρ, fun _ => rfl, b3, ρ1, F6, _, g6.sr, he1, fun yv H7 F7 g7 x7 => ?_⟩
                      cases hko : kOf dk with
                      | none => simp only [hko] at hm2; cases hm2
                      | some kk =>
                        simp only [hko] at hm2
                        by_cases hl : acc.length < 1000
                        case neg => rw [if_neg hl] at hm2; cases hm2
                        rw [if_pos hl] at hm2
                        obtain ⟨bk, rfl⟩ := Rp.key_ref hko x6
                        have le7 : Le H3 H7 := (g5.le.trans g6.le).trans g7.le
                        have k7 : Kp H3 F2 H7 F7 := (g5.kp.trans g6.kp).trans g7.kp
                        have hD7 : H7 Da = some (dicO C.w Da es ep) := le7 _ _ hD3
                        have nF7 : ¬ F7 Da := g7.sr.not_F hD3 nF2 no1
                        have s7 : SR C H7 F7 σ ρ := s3.back g7.sr le7 k7.ff hpl sl4
                        have ra7 : RpK C.w C.K H7 F7 es acc := RpK.mono k7.keep k7.ff _ _ (RpK.mono le3.keep (fun _ z => z) _ _ ra2)
                        have x67 : Rp C.w C.K H7 F7 (.ref bk) dk := g7.kp.rp (C := C) x6
                        refine ⟨bk, es, ep, acc, kk, dk, F7, rfl, by rw [ew]; exact hD7, by rw [ew, ← k.K]; exact ra7, by rw [ew, ← k.K]; exact x67, hko, by rw [ra7.length, sizeLine_eq]; omega, fun ep' => ?_⟩
                        rw [ew]
                        have ku : Keep F7 H7 (upd H7 Da (dicO C.w Da (ePut es kk bk yv) ep')) := Keep.upd hD7 True.intro nF7
                        have k8 : Kp H7 F7 (upd H7 Da (dicO C.w Da (ePut es kk bk yv) ep')) F7 := ⟨ku, fun _ z => z⟩
                        refine ⟨F7, _, ep', _, fun a o h => ?_, (kp2.trans le3.kp).trans (k7.trans k8), s7.upd_free hD7 nF7 True.intro h01 no1, upd_same, nF7, RpK.mono ku (fun _ z => z) _ _ (ra7.put hko x67 x7), hm2, it3.kp (k7.trans k8)⟩
                        have ne : a ≠ Da := by rintro rfl; rw [hDa] at h; cases h
                        rw [upd_ne ne]
                        exact le7 _ _ (le3 _ _ (le2 _ _ h))
theorem DE.dc (k : Cok X C) (hc : X.calm = true) (hi : DI X C tg iter it) (ok : BlkOk X.N X.env.scope scope own)
    (hg : ∀ (s : Shared) (H : Hp) (c : Addr) (cl : List (Str × Addr)) (fp : List Addr), DG (BlkX X s H scope c cl fp) tg t)
    (ht : ∀ (s : Shared) (H : Hp) (a : Addr) (cl : List (Str × Addr)) (fp : List Addr) (C' : Cc), (∀ i, C'.fx i = none) → Cok (BlkX X s H scope a cl fp) C' → DTs (BlkX X s H scope a cl fp) C' ifs c)
    (hk : ∀ (s : Shared) (H : Hp) (a : Addr) (cl : List (Str × Addr)) (fp : List Addr) (C' : Cc), (∀ i, C'.fx i = none) → Cok (BlkX X s H scope a cl fp) C' → DV (BlkX X s H scope a cl fp) C' kx km)
    (he : ∀ (s : Shared) (H : Hp) (a : Addr) (cl : List (Str × Addr)) (fp : List Addr) (C' : Cc), (∀ i, C'.fx i = none) → Cok (BlkX X s H scope a cl fp) C' → DV (BlkX X s H scope a cl fp) C' vx vm)
    (hsl : ∀ i ∈ t.slots, i ∈ own.map (·.2) := by decide) (hs : ∀ x, foldedSetIterable iter X.env x = pure x := by intro _; rfl) :
    DE X C (.DictComp kx vx [⟨tg, iter, ifs, 0⟩] scope pos) (eDc t (own.map (·.2)) it c km vm) :=
  PE.imp (pe_dcO (g := gOf X.K t) k hc hi ok hg (xT k ht) (xV k hk) (xV k he) hs) fun σ H Q q => dc_imp k hsl q
theorem ps_setDcO (kc : Cok X C) {i : Nat} {y : Str} {py spos : Pos} {wi : TI} {g : TG} {tt : TT} {tk tv : TE} (hc : X.calm = true) (hy : X.N[i]? = some y) (hyl : X.env.scope.names.lookup y = some .local)
    (hsw : swapsWith (.DictComp kx vx [⟨tg, iter, ifs, 0⟩] scope pos) (some (.Name y py)) spos.line X.env = pure true) (hi : PI X tg iter wi) (ok : BlkOk X.N X.env.scope scope own)
    (hg : ∀ (s : Shared) (H : Hp) (c : Addr) (cl : List (Str × Addr)) (fp : List Addr), PG (BlkX X s H scope c cl fp) tg g) (ht : ∀ (s : Shared) (H : Hp) (c : Addr) (cl : List (Str × Addr)) (fp : List Addr), PTs (BlkX X s H scope c cl fp) ifs tt)
    (hk : ∀ (s : Shared) (H : Hp) (c : Addr) (cl : List (Str × Addr)) (fp : List Addr), PE (BlkX X s H scope c cl fp) kx tk)
    (he : ∀ (s : Shared) (H : Hp) (c : Addr) (cl : List (Str × Addr)) (fp : List Addr), PE (BlkX X s H scope c cl fp) vx tv) (hs : ∀ x, foldedSetIterable iter X.env x = pure x := by intro _; rfl) :
    PS X (.Assign [.Name y py] (.DictComp kx vx [⟨tg, iter, ifs, 0⟩] scope pos) spos) (tAsg (tDcO X.w X.K wi g tt tk tv (own.map (·.2))) (gName i)) := by
  refine ⟨fun pins s σ H D I h => ?_⟩
  rw [exec_Assign_Name_used _ _ _ _ hsw]
  refine wpAny_bind (wpAny_standAt (wpAny_bind ?_))
  show wpAny _ X.A (do let _ ← comprehension (.DictComp kx vx [⟨tg, iter, ifs, 0⟩] scope pos) scope X.env (firstIterPos [⟨tg, iter, ifs, 0⟩] pos) newDict false (eval iter X.env) (some (assign (.Name y py) X.env))) _ _ s
  refine wpAny_bind (thn (dcO_core (Qf := fun _ s' => SP X pins D .next s') (Q := fun x H1 => gName i x σ H1 D.nx) kc hc I hi ok hg ht hk he hs h fun L c s' m H' I' q hn f => ?_) fun _ s' hq => wpAny_pure (wpAny_pure hq))
  show wpAny _ _ (assign (.Name y py) X.env (.ref L)) _ _ _
  refine wpAny_assign_Name (store_ok2 (v := V.ref L) I' kc.nd hy (.inl hyl) rfl (fun s2 I2 ⟨a, sb, ha⟩ => ?_) (.inr hyl))
  obtain ⟨f0, f1, f2, f3, f4, f5⟩ := f
  have haC : c ≠ a := ha.elim (fun z => by rw [z]; exact f1) fun z e => f4 y a z e.symm
  exact ⟨m, hn.sameBut sb haC, fun h3 sb3 => ⟨_, H', I2.turned (t' := s2.toks) (fun b o hb e => (sb3.2 b hb).trans e) f0 f1 f3 f4 f5, q⟩⟩
theorem DS.setDc (k : Cok X C) {i : Nat} {y : Str} {py spos : Pos} (hy : X.N[i]? = some y) (hyl : X.env.scope.names.lookup y = some .local)
    (hsw : swapsWith (.DictComp kx vx [⟨tg, iter, ifs, 0⟩] scope pos) (some (.Name y py)) spos.line X.env = pure true) (hc : X.calm = true) (hi : DI X C tg iter it) (ok : BlkOk X.N X.env.scope scope own)
    (hg : ∀ (s : Shared) (H : Hp) (c : Addr) (cl : List (Str × Addr)) (fp : List Addr), DG (BlkX X s H scope c cl fp) tg t)
    (ht : ∀ (s : Shared) (H : Hp) (a : Addr) (cl : List (Str × Addr)) (fp : List Addr) (C' : Cc), (∀ i, C'.fx i = none) → Cok (BlkX X s H scope a cl fp) C' → DTs (BlkX X s H scope a cl fp) C' ifs c)
    (hk : ∀ (s : Shared) (H : Hp) (a : Addr) (cl : List (Str × Addr)) (fp : List Addr) (C' : Cc), (∀ i, C'.fx i = none) → Cok (BlkX X s H scope a cl fp) C' → DV (BlkX X s H scope a cl fp) C' kx km)
    (he : ∀ (s : Shared) (H : Hp) (a : Addr) (cl : List (Str × Addr)) (fp : List Addr) (C' : Cc), (∀ i, C'.fx i = none) → Cok (BlkX X s H scope a cl fp) C' → DV (BlkX X s H scope a cl fp) C' vx vm)
    (hf : C.fx i = none := by rfl) (hsl : ∀ i ∈ t.slots, i ∈ own.map (·.2) := by decide) (hs : ∀ x, foldedSetIterable iter X.env x = pure x := by intro _; rfl) :
    DS X C (.Assign [.Name y py] (.DictComp kx vx [⟨tg, iter, ifs, 0⟩] scope pos) spos) (sSet i (eDc t (own.map (·.2)) it c km vm)) :=
  PS.imp (ps_setDcO (g := gOf X.K t) k hc hy hyl hsw hi ok hg (xT k ht) (xV k hk) (xV k he) hs) fun En σ H q => by
    refine dc_imp k hsl (st_E q fun ρ F a o s _ e w => ?_)
    cases e
    exact fun v H' F' g x => w _ H' F' g.kp (g.sr.set x.1 (fun ho b eb j oj => by
      obtain ⟨c, ec, n⟩ := x.2 ho
      rw [ec] at eb; cases eb
      exact g.sr0.not_own n j oj) hf)
end
end TS
/-! T14: t >= u of flat tuples -/
namespace TS
open PySem PySem.Spec PyProof.Rows L2

/-! ### t >= u -/
def flat2 : List D → List D → Bool
  | [], [] => true
  | .int _ :: xs, .int _ :: ys => flat2 xs ys
  | .str _ :: xs, .str _ :: ys => flat2 xs ys
  | _, _ => false
inductive F2 : List D → List D → Prop
  | nil : F2 [] []
  | int (a b : Int) {xs ys : List D} : F2 xs ys → F2 (PyData.int a :: xs) (PyData.int b :: ys)
  | str (a b : Str) {xs ys : List D} : F2 xs ys → F2 (PyData.str a :: xs) (PyData.str b :: ys)
theorem flat2_ok : ∀ (xs ys : List D), flat2 xs ys = true → F2 xs ys := by
  intro xs
  induction xs with
  | nil => intro ys h; cases ys with
    | nil => exact .nil
    | cons y ys => cases h
  | cons x xs ih =>
    intro ys h
    cases ys with
    | nil => cases x <;> cases h
    | cons y ys => cases x <;> cases y <;> first | cases h; done | exact .int _ _ (ih ys h) | exact .str _ _ (ih ys h)
def lexD : List D → List D → Bool
  | .int a :: xs, .int b :: ys => if (a == b) = true then lexD xs ys else decide (b ≤ a)
  | .str a :: xs, .str b :: ys => if (a == b) = true then lexD xs ys else !decide (a.cps.toList < b.cps.toList)
  | _, _ => true
def geTF (d e : D) : Option Bool := match d, e with
  | .tuple xs, .tuple ys => if flat2 xs ys = true then some (lexD xs ys) else none
  | _, _ => none
def eAt (x y : Option D) : Bool := match x, y with
  | some (.int a), some (.int b) => a == b
  | some (.str a), some (.str b) => a == b
  | _, _ => true
def rAt (x y : Option D) : Bool := match x, y with
  | some (.int a), some (.int b) => decide (b ≤ a)
  | some (.str a), some (.str b) => !decide (a.cps.toList < b.cps.toList)
  | _, _ => true
theorem F2.lex {xs ys : List D} (f : F2 xs ys) : ∀ (i : Nat) (e r : Nat → Bool), (∀ j, e (i + j) = eAt xs[j]? ys[j]?) → (∀ j, r (i + j) = rAt xs[j]? ys[j]?) → Ob.lexAt e r true i xs.length = lexD xs ys := by
  induction f with
  | nil => intro i e r he hr; rfl
  | int a b f ih =>
    intro i e r he hr
    have e0 := he 0
    have r0 := hr 0
    simp only [List.getElem?_cons_zero, eAt, Nat.add_zero] at e0
    simp only [List.getElem?_cons_zero, rAt, Nat.add_zero] at r0
    rw [List.length_cons, Ob.lexAt_succ, e0, r0, lexD]
    rw [ih (i + 1) e r (fun j => by have := he (j + 1); rw [show i + (j + 1) = i + 1 + j by omega] at this; simpa using this) (fun j => by have := hr (j + 1); rw [show i + (j + 1) = i + 1 + j by omega] at this; simpa using this)]
  | str a b f ih =>
    intro i e r he hr
    have e0 := he 0
    have r0 := hr 0
    simp only [List.getElem?_cons_zero, eAt, Nat.add_zero] at e0
    simp only [List.getElem?_cons_zero, rAt, Nat.add_zero] at r0
    rw [List.length_cons, Ob.lexAt_succ, e0, r0, lexD]
    rw [ih (i + 1) e r (fun j => by have := he (j + 1); rw [show i + (j + 1) = i + 1 + j by omega] at this; simpa using this) (fun j => by have := hr (j + 1); rw [show i + (j + 1) = i + 1 + j by omega] at this; simpa using this)]
theorem F2.len {xs ys : List D} (f : F2 xs ys) : xs.length = ys.length := by
  induction f with
  | nil => rfl
  | int _ _ _ ih => simp [ih]
  | str _ _ _ ih => simp [ih]
theorem F2.at_ {w : World} {K : Frg} {H : Hp} {F : Addr → Prop} {A : Around} {s : Shared} {xs ys : List D} (f : F2 xs ys) : ∀ {vs us : List V} {as bs : List Value}, RpA w K H F vs xs → RpA w K H F us ys → Vals vs as → Vals us bs →
    ∀ j (h1 : j < as.length) (h2 : j < bs.length), SeqAt.EqAt A s as[j] bs[j] (eAt xs[j]? ys[j]?) ∧ Ob.RcOp .GtE A s as[j] bs[j] (rAt xs[j]? ys[j]?) := by
  induction f with
  | nil => intro vs us as bs x y rx ry j h1 h2; cases x; cases rx; simp at h1
  | int a b f ih =>
    intro vs us as bs x y rx ry j h1 h2
    cases x with
    | cons x1 x2 => cases y with
      | cons y1 y2 =>
        cases rx with
        | cons r1 r2 => cases ry with
          | cons q1 q2 =>
            cases j with
            | zero =>
              cases x1; cases y1
              obtain ⟨t, rfl⟩ := r1
              obtain ⟨t', rfl⟩ := q1
              exact ⟨SeqAt.EqAt.int_int _ _ _ _, Ob.RcOp.ge_int _ _ _ _⟩
            | succ j => simpa using ih x2 y2 r2 q2 j (by simpa using h1) (by simpa using h2)
  | str a b f ih =>
    intro vs us as bs x y rx ry j h1 h2
    cases x with
    | cons x1 x2 => cases y with
      | cons y1 y2 =>
        cases rx with
        | cons r1 r2 => cases ry with
          | cons q1 q2 =>
            cases j with
            | zero =>
              cases x1; cases y1
              obtain ⟨t, rfl⟩ := r1
              obtain ⟨t', rfl⟩ := q1
              exact ⟨SeqAt.EqAt.str_str _ _ _ _, fun _ _ _ _ h => P.ge_str h⟩
            | succ j => simpa using ih x2 y2 r2 q2 j (by simpa using h1) (by simpa using h2)
section
variable {X : Cx} {C : Cc} {a b : Expr} {pos : Pos}
theorem op_geT (k : Cok X C) : OpR X (compareOp .GtE) (rInD2 C geTF) := by
  intro pins s σ H x y v u Q I rx ry h
  obtain ⟨d, e, bb, hx, hy, hf, q⟩ := h
  unfold geTF at hf
  split at hf
  · rename_i xs ys
    split at hf
    · rename_i hfl
      have f := flat2_ok _ _ hfl
      cases hf
      cases hx with
      | tup x1 x2 => cases hy with
        | tup y1 y2 =>
          cases rx
          cases ry
          obtain ⟨its, r1, p1, _⟩ := I.tuple (k.K ▸ x1)
          obtain ⟨its2, r2, p2, _⟩ := I.tuple (k.K ▸ y1)
          have l1 : its.length = xs.length := by rw [← r1.length, x2.length]
          have l2 : its2.length = ys.length := by rw [← r2.length, y2.length]
          have R := Ob.RcOp.tuples_ge (A := X.A) (s := s) (e := fun j => eAt xs[j]? ys[j]?) (r := fun j => rAt xs[j]? ys[j]?) p1 p2 (by have := k.un; omega) (fun j h1 h2 => by
            simpa using (f.at_ (A := X.A.in1) (s := s) x2 y2 r1 r2 j (by simpa using h1) (by simpa using h2)).1) (fun j h1 h2 _ => by
            simpa using (f.at_ (A := X.A.in1) (s := s) x2 y2 r1 r2 j (by simpa using h1) (by simpa using h2)).2)
          have e3 : decide (its.toArray.size ≥ its2.toArray.size) = true := by
            rw [List.size_toArray, List.size_toArray, l1, l2, f.len]; exact decide_eq_true (Nat.le_refl _)
          have e4 : min its.toArray.size its2.toArray.size = xs.length := by
            rw [List.size_toArray, List.size_toArray, l1, l2, f.len]; exact Nat.min_self _
          rw [e3, e4, f.lex 0 _ _ (fun j => by simp) (fun j => by simp)] at R
          exact R X.prog X.w X.xe (EP X pins σ Q) ⟨.bl _, H, I, rfl, q⟩
    · cases hf
  · cases hf
theorem DB.geT (k : Cok X C) {ma mb : OM} (ha : DO X C a ma) (hb : DO X C b mb) : DB X C (.Compare a [.GtE] [b] pos) (b2 geTF ma mb) := DB.cmp (op_geT k) b2_rInD2 ha hb (nomark _)
end
/-! ### unpacking -/
section
variable {X : Cx} {C : Cc} {e : Expr} {pos tp : Pos}
def sUnp (is : List Nat) (m : OM) : SM := sb m fun ρ d => (tgtM (.tup is) d ρ).map .nx
theorem DS.unp (k : Cok X C) (hc : X.calm = true) {es : List Expr} {kk : Nat} {is : List Nat} {m : OM} (hg : DGs X es is) (h : DV X C e m) (hfx : ∀ i ∈ is, C.fx i = none := by intro i _; rfl) (hn : (assignEach es X.env).length = is.length := by rfl) (hst : (assignEach es X.env).findIdx? (·.1) = none := by rfl)
    (hs : swapsWithSole [.Tuple es kk tp] e pos.line X.env = pure false := by rfl) (hw : swappedStores [.Tuple es kk tp] e X.env = pure none := by rfl) (h1 : (assignEach [.Tuple es kk tp] X.env).map (·.2) = [assign (.Tuple es kk tp) X.env] := by rfl) :
    DS X C (.Assign [.Tuple es kk tp] e pos) (sUnp is m) := PS.imp (ps_asg h (DG.tup (pos := tp) (k := kk) hc hg hn hst) hs hw h1) fun En σ H q => by
  refine st_V q fun ρ F d o s hm e w v H' F' g x => ?_
  obtain ⟨ρ', e1, rfl⟩ := Option.map_eq_some_iff.mp e
  exact gOf_ok (t := .tup is) k.K g.sr x e1 hfx fun σ' s' _ => w σ' H' F' g.kp s'
/-! ### code that is never come to -/
def sNev : SM := fun _ => none
theorem DS.nev {st : Stmt} : DS X C st sNev := PS.imp ps_never fun En σ H ⟨ρ, F, o, s, e, w⟩ => by cases e
theorem DSs.nev {sts : List Stmt} : DSs X C sts sNev := PSs.imp pss_never fun En σ H ⟨ρ, F, o, s, e, w⟩ => by cases e
/-! ### raise X('..') -/
structure ExC (K : Frg) (mg : Str → Option Value) (x : Str) : Prop where
  ex : ∃ C : Addr, mg x = some (.ref C) ∧ PySem.W.excIn K C He.veBase "ValueError.__new__" = true ∧ PySem.W.keepIn K (.ref C) = true ∧ PySem.W.subIn K (.ref C) (.type "BaseException") = some true ∧ PySem.W.typeIn K (.ref C) = some (.type "type")
def sRai (x : String) : SM := fun ρ => some (.ex ⟨x, none⟩ ρ)
theorem DS.rai (k : Cok X C) (hc : X.calm = true) {x : String} {m : Str} {j : Nat} {p p2 pos2 : Pos} (h : ExC X.K X.mg (Str.ofString x)) (hg : Gl X (Str.ofString x)) (hdb : (Str.ofString x == ("__debug__" : Str)) = false := by decide) :
    DS X C (.Raise (some (.Call (.Name (Str.ofString x) p) [.Constant (.str m) j p2] [] pos2)) none pos) (sRai x) := by
  obtain ⟨cl, h1, h2, h3, h4, h5⟩ := h.ex
  refine PS.imp (ps_raise hc k.tk (pmk_own (F := F.excBase_ValueError) h2 h1 h3 (raises_own h4 h5) hg hdb)) fun En σ H q => ?_
  obtain ⟨ρ, F, o, s, e, w⟩ := q
  cases e
  exact w (.ref cl) none σ H F .refl s ⟨h1, rfl⟩
end
/-! ### the rule of a def -/
def runD (N : List Str) (m : SM) : FM := fun ds => match m (ds.map (fun d => some (.val d)) ++ List.replicate (N.length - ds.length) none) with
  | some (.nx _) => ok (.val .none)
  | some (.rt rv _) => ok rv
  | some (.ex x _) => some (.inr x)
  | _ => none
theorem start_sr {w : World} {K : Frg} {N : List Str} {H : Hp} {F : Addr → Prop} {vs : List V} {ds : List D} {W : WX} (x : RpA w K H F vs ds) (hd : ∀ a, F a → ∃ o, H a = some o) :
    SR ⟨w, K, H, F, W, fun _ => none⟩ H F (L2.start N vs) (ds.map (fun d => some (.val d)) ++ List.replicate (N.length - ds.length) none) := by
  have hl := x.length
  refine ⟨by simp [L2.start, hl], fun i r e => ?_, fun i j a o1 o2 => ?_, Le.refl, fun _ h => h, fun _ h => .inl h, hd, fun i v e => by cases e⟩
  · by_cases hi : i < ds.length
    · rw [List.getElem?_append_left (by simpa using hi), List.getElem?_map] at e
      cases hd : ds[i]? with
      | none => rw [hd] at e; cases e
      | some d =>
        rw [hd] at e
        cases e
        obtain ⟨v, h1, h2⟩ := x.get hd
        exact ⟨v, by rw [L2.start, List.getElem?_append_left (by simp; omega), List.getElem?_map, h1]; rfl, h2⟩
    · rw [List.getElem?_append_right (by simpa using hi)] at e
      have := List.mem_of_getElem? e
      simp at this
  · obtain ⟨h1, r, h2, h3⟩ := o1
    by_cases hi : i < ds.length
    · rw [List.getElem?_append_left (by simpa using hi), List.getElem?_map] at h2
      cases hd : ds[i]? with
      | none => rw [hd] at h2; cases h2
      | some d => rw [hd] at h2; cases h2; cases h3
    · rw [List.getElem?_append_right (by simpa using hi)] at h2
      have := List.mem_of_getElem? h2
      simp at this
section
variable {P : Program} {w : World} {K : PySem.W.Frag} {mg : Str → Option Value} {base : Heap} {x : Str} {params : Arguments} {body : List Stmt} {scope : Scope} {f : Addr} {fd : FuncData} {N ps : List Str} {k : Nat} {m : SM}
abbrev XX (P : Program) (w : World) (K : PySem.W.Frag) (mg : Str → Option Value) (base : Heap) (N : List Str) (qual : Str) (scope : Scope) (f : Addr) (cdv : Value) (A : Around) (outer : List Env) (s : Shared) (H : Hp) (E : XK) : Cx := cxOf (L2.CX P w) P w K mg base N qual scope f cdv A outer s H E
abbrev CC0 (w : World) (K : Frg) (H0 : Hp) (F0 : Addr → Prop) (E : XK) : Cc := ⟨w, K, H0, F0, fun cls d _ H' => E cls d H', fun _ => none⟩
theorem FnLaw.of (F : FunD K x x params body scope [] [] f fd) (S : FnScope N ps scope)
    (hbody : ∀ (cdv : Value) (A : Around) (outer : List Env) (s : Shared) (H : Hp) (E : XK) (F0 : Addr → Prop), Room k (A.deeper (envOfC x scope s.heap.objs.size f cdv)) → Cok (XX P w K mg base N x scope f cdv A outer s H E) (CC0 w K H F0 E) → DSs (XX P w K mg base N x scope f cdv A outer s H E) (CC0 w K H F0 E) body m) :
    FnOk P w K mg base (L2.CX P w) (k + 1) f fd ps (spF w K mg ps.length (runD N m)) := by
  refine F.ok S (fun vs H Q E h => by obtain ⟨_, _, _, h, _⟩ := h; exact h) fun cdv A outer s H vs Q E hr hsp => ?_
  obtain ⟨F0, ds, r, hl, hdom, x0, hf, hq⟩ := hsp
  have kc : Cok (XX P w K mg base N x scope f cdv A outer s H E) (CC0 w K H F0 E) := ⟨rfl, rfl, S.nd, by have := hr.un; show (A.deeper _).units + 100 < cLine; omega, takes_of rfl rfl rfl rfl⟩
  refine ⟨_, hbody cdv A outer s H E F0 hr kc, ?_⟩
  have s0 := start_sr (N := N) (W := fun cls d _ H' => E cls d H') x0 hdom
  unfold runD at hf
  split at hf <;> try cases hf
  · rename_i ρ' e
    refine ⟨_, F0, _, s0, e, fun σ' H' F' kp s' => ?_⟩
    exact hq .non H' F' ⟨s'.h0, s'.f0, s'.fnew, s'.fdom⟩ .non
  · rename_i rv ρ' e
    refine ⟨_, F0, _, s0, e, fun v σ' H' F' kp s' ho => ?_⟩
    exact hq v H' F' ⟨s'.h0, s'.f0, s'.fnew, s'.fdom⟩ ho
  · rename_i z ρ' e
    refine ⟨_, F0, _, s0, e, fun cls d σ' H' F' kp s' ho => ?_⟩
    exact hq cls d H' s'.h0 ho
theorem FnK.of (F : FunD K x x params body scope [] [] f fd) (hm : mg x = some (.ref f)) (S : FnScope N ps scope)
    (hb : ∀ (kV doc pm : Value) (an : Option Addr) (cdv ct : Value) (us : List Value), us.length = ps.length → bindArgs (PySem.W.fnOf x x params body scope .none kV doc pm an cdv ct) ⟨us, []⟩ = pure (ps.zip us))
    (hbody : ∀ (cdv : Value) (A : Around) (outer : List Env) (s : Shared) (H : Hp) (E : XK) (F0 : Addr → Prop), Room k (A.deeper (envOfC x scope s.heap.objs.size f cdv)) → Cok (XX P w K mg base N x scope f cdv A outer s H E) (CC0 w K H F0 E) → DSs (XX P w K mg base N x scope f cdv A outer s H E) (CC0 w K H F0 E) body m) :
    FnK P w K mg base x ps.length (k + 1) (runD N m) := ⟨f, fd, ps, rfl, FnLaw.of F S hbody, hm, F.kp, F.bindsN hb⟩
end
end TS
/-! T15: the rules with their usual side conditions -/
namespace TS
open PySem PySem.Spec PyProof.Rows L2
section
variable {X : Cx} {C : Cc} {e a b c : Expr} {es : List Expr} {p p2 pos pos' : Pos} {l : LM}
theorem vL (i : Nat) {x : Str} (hN : X.N[i]? = some x := by rfl) (hv : Vis X.env.scope x := by first | exact .inl rfl | exact .inr (.inl rfl) | exact .inr (.inr rfl)) (hd : (x == ("__debug__" : Str)) = false := by decide) (hcd : (x == ("__classdict__" : Str)) = false := by decide) : DV X C (.Name x pos) (vVar i) := DV.var hN hv hd hcd
theorem oL (i : Nat) {x : Str} (hN : X.N[i]? = some x := by rfl) (hv : Vis X.env.scope x := by first | exact .inl rfl | exact .inr (.inl rfl) | exact .inr (.inr rfl)) (hd : (x == ("__debug__" : Str)) = false := by decide) (hcd : (x == ("__classdict__" : Str)) = false := by decide) : DO X C (.Name x pos) (oVar i) := DO.var hN hv hd hcd
theorem gI {x : Str} {i : Int} (hm : ∃ t, X.mg x = some (.int i t)) (hg : Gl X x := by rfl) (hd : (x == ("__debug__" : Str)) = false := by decide) : DV X C (.Name x pos) (oC (.int i)) := let ⟨_, h⟩ := hm; DV.gint hg h hd
theorem gS {x y : Str} (hm : ∃ t, X.mg x = some (.str y t)) (hg : Gl X x := by rfl) (hd : (x == ("__debug__" : Str)) = false := by decide) : DV X C (.Name x pos) (oC (.str y)) := let ⟨_, h⟩ := hm; DV.gstr hg h hd
theorem bLen (k : Cok X C) (hm : X.mg "len" = none) (ha : DL X C [e] l) (hg : Gl X "len" := by rfl) (he : starEach [e] X.env = (false, eval e X.env) :: starEach [] X.env := by rfl) (hpl : (backTo pos (starEach [] X.env)).any (·.1) = false := by rfl) : DE X C (.Call (.Name "len" p) [e] [] pos) (eL lenF l) :=
  DE.callB call_lenA (cr_len k.K k.w) hg hm boot_len ha (by decide) (by decide) he hpl
theorem bSorted (k : Cok X C) (hc : X.calm = true) (hm : X.mg "sorted" = none) (ha : DL X C [e] l) (hg : Gl X "sorted" := by rfl) (he : starEach [e] X.env = (false, eval e X.env) :: starEach [] X.env := by rfl) (hpl : (backTo pos (starEach [] X.env)).any (·.1) = false := by rfl) : DE X C (.Call (.Name "sorted" p) [e] [] pos) (eL sortedF l) :=
  DE.callB (op_sorted k hc) cr_sortD hg hm boot_sorted ha (by decide) (by decide) he hpl
theorem bList (k : Cok X C) (hc : X.calm = true) (hm : X.mg "list" = none) (ha : DL X C [e] l) (hg : Gl X "list" := by rfl) (he : starEach [e] X.env = (false, eval e X.env) :: starEach [] X.env := by rfl) (hpl : (backTo pos (starEach [] X.env)).any (·.1) = false := by rfl) : DE X C (.Call (.Name "list" p) [e] [] pos) (eL listF l) :=
  DE.callT (op_list k hc) cr_listD hg hm boot_list ha (by decide) (by decide) he hpl
theorem bTuple (k : Cok X C) (hc : X.calm = true) (hm : X.mg "tuple" = none) (ha : DL X C [e] l) (hg : Gl X "tuple" := by rfl) (he : starEach [e] X.env = (false, eval e X.env) :: starEach [] X.env := by rfl) (hpl : (backTo pos (starEach [] X.env)).any (·.1) = false := by rfl) : DE X C (.Call (.Name "tuple" p) [e] [] pos) (eL tupleF l) :=
  DE.callT call_tuple_of (cr_tup k.K) hg hm boot_tuple ha (by decide) (by decide) he hpl
theorem isI (T : String) {y : Str} {m : OM} (k : Cok X C) (ha : DO X C a m) (hm : X.mg "isinstance" = none) (hm2 : X.mg y = none) (hv2 : bootBuiltins y = some (.type T) := by decide +kernel) (hg : Gl X "isinstance" := by rfl) (hg2 : Gl X y := by rfl) (hn2 : y ≠ "__name__" := by decide) (hdb2 : (y == ("__debug__" : Str)) = false := by decide)
    (he : starEach [a, .Name y p2] X.env = (false, eval a X.env) :: starEach [.Name y p2] X.env := by rfl) (he2 : starEach [.Name y p2] X.env = (false, eval (.Name y p2) X.env) :: starEach [] X.env := by rfl) (hpl : (backTo pos (starEach [.Name y p2] X.env)).any (·.1) = false := by rfl) :
    DV X C (.Call (.Name "isinstance" p) [a, .Name y p2] [] pos) (oIs T m) :=
  DV.isi k ha hg hm (by decide +kernel) (by decide) (by decide) hg2 hm2 hv2 hn2 hdb2 he he2 hpl
theorem bIn (k : Cok X C) {ma mb : OM} (ha : DO X C a ma) (hb : DO X C b mb) (hm : behindInMarks .In b = false := by rfl) : DB X C (.Compare a [.In] [b] pos) (b2 inF ma mb) := DB.in_ k ha hb hm
theorem bNotIn (k : Cok X C) {ma mb : OM} (ha : DO X C a ma) (hb : DO X C b mb) (hm : behindInMarks .NotIn b = false := by rfl) : DB X C (.Compare a [.NotIn] [b] pos) (b2 notInF ma mb) := DB.notIn k ha hb hm
theorem vIn (k : Cok X C) {ma mb : OM} (ha : DO X C a ma) (hb : DO X C b mb) (hm : behindInMarks .In b = false := by rfl) : DV X C (.Compare a [.In] [b] pos) (oB (b2 inF ma mb)) := DV.in_ k ha hb hm
theorem vNotIn (k : Cok X C) {ma mb : OM} (ha : DO X C a ma) (hb : DO X C b mb) (hm : behindInMarks .NotIn b = false := by rfl) : DV X C (.Compare a [.NotIn] [b] pos) (oB (b2 notInF ma mb)) := DV.notIn k ha hb hm
theorem bTru (k : Cok X C) {m : OM} (h : DO X C e m) (he : ∀ whole, isTrue e X.env whole = (do let v ← whole; standAt e.pos; holding [v] (truthy v)) := by intro _; rfl) : DB X C e (bT m) := DB.tru k h he
theorem bLeLe {ma mb mc : OM} (ha : DO X C a ma) (hb : DO X C b mb) (hc : DO X C c mc) (hm : lastMarks [.LtE, .LtE] [b, c] = false := by rfl) : DB X C (.Compare a [.LtE, .LtE] [b, c] pos) (bChain (ltF pLe) (ltF pLe) ma mb mc) := DB.leLe ha hb hc hm
theorem vLeLe {ma mb mc : OM} (ha : DO X C a ma) (hb : DO X C b mb) (hc : DO X C c mc) (hm : lastMarks [.LtE, .LtE] [b, c] = false := by rfl) : DV X C (.Compare a [.LtE, .LtE] [b, c] pos) (oB (bChain (ltF pLe) (ltF pLe) ma mb mc)) := DV.leLe ha hb hc hm
theorem oIx (k : Cok X C) {ma mb : OM} (ha : DO X C a ma) (hb : DO X C b mb) (hs : PlainIx b := by intro _ _; rfl) : DO X C (.Subscript a b pos) (o2 idxF ma mb) := DO.idx k ha hb hs
theorem vIx (k : Cok X C) {ma mb : OM} (ha : DV X C a ma) (hb : DV X C b mb) (hs : PlainIx b := by intro _ _; rfl) : DV X C (.Subscript a b pos) (o2 idxF ma mb) := DV.idx k ha hb hs
theorem sL (i : Nat) {x : Str} {m : EM} (k : Cok X C) (h : DE X C e m) (hi : X.N[i]? = some x := by rfl) (hx : Loc X.env.scope x := by first | exact .inl rfl | exact .inr rfl) (hf : C.fx i = none := by rfl) (hs : swapsWith e (some (.Name x pos')) pos.line X.env = pure false := by rfl) (hl : X.fn x = true ∨ X.env.scope.names.lookup x = some .local := by first | exact .inl rfl | exact .inr rfl | assumption) :
    DS X C (.Assign [.Name x pos'] e pos) (sSet i m) := DS.set k.nd hi hx h hf hs hl
theorem rV (i : Nat) {x : Str} (hN : X.N[i]? = some x := by rfl) (hv : Vis X.env.scope x := by first | exact .inl rfl | exact .inr (.inl rfl) | exact .inr (.inr rfl)) (hd : (x == ("__debug__" : Str)) = false := by decide) (hcd : (x == ("__classdict__" : Str)) = false := by decide) : DS X C (.Return (some (.Name x p)) pos) (sRetV i) := DS.retV hN hv hd hcd
theorem tN (i : Nat) {x : Str} (hNd : X.N.Nodup) (hi : X.N[i]? = some x := by rfl) (hx : Loc X.env.scope x := by first | exact .inl rfl | exact .inr rfl) (hf : X.fn x = true ∨ X.env.scope.names.lookup x = some .local := by first | exact .inl rfl | exact .inr rfl | assumption) : DG X (.Name x pos) (.one i) := DG.one hNd hi hx hf
theorem tC (i : Nat) {x : Str} {is : List Nat} (hNd : X.N.Nodup) (h : DGs X es is) (hi : X.N[i]? = some x := by rfl) (hx : Loc X.env.scope x := by first | exact .inl rfl | exact .inr rfl) (hf : X.fn x = true ∨ X.env.scope.names.lookup x = some .local := by first | exact .inl rfl | exact .inr rfl | assumption)
    (hs : (assignEach (.Name x pos :: es) X.env).map (·.2) = assign (.Name x pos) X.env :: (assignEach es X.env).map (·.2) := by rfl) : DGs X (.Name x pos :: es) (i :: is) := DGs.cons hNd hi hx h hf hs
theorem sAppL (i : Nat) {x : Str} {apos cpos : Pos} {m : OM} (h : DV X C e m) (hN : X.N[i]? = some x := by rfl) (hv : Vis X.env.scope x := by first | exact .inl rfl | exact .inr (.inl rfl) | exact .inr (.inr rfl)) (hd : (x == ("__debug__" : Str)) = false := by decide) (hcd : (x == ("__classdict__" : Str)) = false := by decide)
    (hbase : attributeBase (.Name x p) "append" X.env (eval (.Name x p) X.env) = eval (.Name x p) X.env := by rfl)
    (hfew : ((backTo cpos (starEach [e] X.env)).all (fun x => !x.1) && (backToKw cpos (keywordEach [] X.env)).all (fun x => x.1.isSome)
      && decide ([e].length + ([] : List Keyword).length + (if ([] : List Keyword).isEmpty then 0 else 1) < 30)) = true := by rfl)
    (hline : (apos.endLine == cpos.line) = true := by rfl) (hs : starEach [e] X.env = (false, eval e X.env) :: starEach [] X.env := by rfl) (hplain : (backTo cpos (starEach [] X.env)).any (·.1) = false := by rfl)
    (hs2 : swapsWith (.Call (.Attribute (.Name x p) "append" apos) [e] [] cpos) none pos.line X.env = pure false := by rfl) :
    DS X C (.Expr (.Call (.Attribute (.Name x p) "append" apos) [e] [] cpos) pos) (sApp i m) := DS.app hN hv hd hcd h hbase hfew hline hs hplain hs2
theorem sDPopL (i : Nat) (k : Cok X C) {x : Str} {apos cpos : Pos} {m : OM} (h : DV X C e m) (hN : X.N[i]? = some x := by rfl) (hv : Vis X.env.scope x := by first | exact .inl rfl | exact .inr (.inl rfl) | exact .inr (.inr rfl)) (hd : (x == ("__debug__" : Str)) = false := by decide) (hcd : (x == ("__classdict__" : Str)) = false := by decide)
    (hbase : attributeBase (.Name x p) "pop" X.env (eval (.Name x p) X.env) = eval (.Name x p) X.env := by rfl)
    (hfew : ((backTo cpos (starEach [e] X.env)).all (fun x => !x.1) && (backToKw cpos (keywordEach [] X.env)).all (fun x => x.1.isSome)
      && decide ([e].length + ([] : List Keyword).length + (if ([] : List Keyword).isEmpty then 0 else 1) < 30)) = true := by rfl)
    (hline : (apos.endLine == cpos.line) = true := by rfl) (hs : starEach [e] X.env = (false, eval e X.env) :: starEach [] X.env := by rfl) (hplain : (backTo cpos (starEach [] X.env)).any (·.1) = false := by rfl)
    (hs2 : swapsWith (.Call (.Attribute (.Name x p) "pop" apos) [e] [] cpos) none pos.line X.env = pure false := by rfl) :
    DS X C (.Expr (.Call (.Attribute (.Name x p) "pop" apos) [e] [] cpos) pos) (sDPop i m) := DS.dpop k hN hv hd hcd h hbase hfew hline hs hplain hs2
theorem sPutL (i : Nat) (k : Cok X C) {x : Str} {value : Expr} {km vm : OM} (hk : DV X C e km) (hval : DV X C value vm) (hN : X.N[i]? = some x := by rfl) (hv : Vis X.env.scope x := by first | exact .inl rfl | exact .inr (.inl rfl) | exact .inr (.inr rfl)) (hd : (x == ("__debug__" : Str)) = false := by decide) (hcd : (x == ("__classdict__" : Str)) = false := by decide)
    (hs : swapsWith value (some (.Subscript (.Name x p) e pos')) pos.line X.env = pure false := by rfl) : DS X C (.Assign [.Subscript (.Name x p) e pos'] value pos) (sPut i km vm) := DS.put k hN hv hd hcd hk hval hs
theorem sPopL (j i : Nat) {x y : Str} {py apos cpos : Pos} (k : Cok X C) (hy : X.N[j]? = some y := by rfl) (hyl : Loc X.env.scope y := by first | exact .inl rfl | exact .inr rfl) (hN : X.N[i]? = some x := by rfl) (hv : Vis X.env.scope x := by first | exact .inl rfl | exact .inr (.inl rfl) | exact .inr (.inr rfl)) (hd : (x == ("__debug__" : Str)) = false := by decide) (hcd : (x == ("__classdict__" : Str)) = false := by decide) (hfx : C.fx j = none := by rfl)
    (hbase : attributeBase (.Name x p) "pop" X.env (eval (.Name x p) X.env) = eval (.Name x p) X.env := by rfl)
    (hline : (apos.endLine == cpos.line) = true := by rfl) (hs : swapsWith (.Call (.Attribute (.Name x p) "pop" apos) [] [] cpos) (some (.Name y py)) pos.line X.env = pure false := by rfl) (hl : X.fn y = true ∨ X.env.scope.names.lookup y = some .local := by first | exact .inl rfl | exact .inr rfl | assumption) :
    DS X C (.Assign [.Name y py] (.Call (.Attribute (.Name x p) "pop" apos) [] [] cpos) pos) (sPopTo j i) := DS.popTo k.nd hy hyl hN hv hd hcd hfx hbase hline hs hl
/-- over a list, a tuple, a dict that stays -/
def iAny (K : Frg) (w : World) (te : TE) : TI := fun σ H R => te σ H fun x H1 => ∃ a, x = .ref a ∧ (((∃ xs, SqL K H1 a xs) ∧ R (Itl K a) H1) ∨ ((∃ xs, SqT K H1 a xs) ∧ R (Itt K a) H1) ∨ ∃ es ep, H1 a = some (dicO w a es ep) ∧ R (Itko w a es ep) H1)
theorem pi_any {tg : Expr} {te : TE} (he : PE X e te) : PI X tg e (iAny X.K X.w te) := by
  refine ⟨fun pins s σ H R I h => ?_⟩
  refine thn (he.run pins s σ H _ I h) fun v s1 ⟨x, H1, I1, r1, a, ex, q⟩ => ?_
  subst ex
  cases r1
  rcases q with ⟨⟨xs, hq⟩, q⟩ | ⟨⟨xs, hq⟩, q⟩ | ⟨es, ep, hd, q⟩
  · obtain ⟨its, rv, p, hz⟩ := I1.list hq
    exact wpAny_pyIter_list p.isList (pi_one (tk := s1.toks) I1 _ (turn_list a _) ⟨_, Heap.get?_push_size _ rfl, rfl, rfl⟩ q)
  · obtain ⟨its, rv, p, hz⟩ := I1.tuple hq
    exact wpAny_pyIter_tuple (show s1.heap.IsTuple a its.toArray from p) (pi_one (tk := s1.toks) I1 _ (turn_tuple a _) ⟨_, Heap.get?_push_size _ rfl, rfl, rfl⟩ q)
  · obtain ⟨hs, o, des, hgd, hx, hdt, hsz, ent⟩ := dicO_at I1.hok hd
    refine iter_keys hs hgd hx hdt (pi_one (tk := s1.toks) I1 _ (turn_keysO _) ⟨_, Heap.get?_push_size _ rfl, rfl, ?_⟩ q)
    rw [hsz] <;> rfl
def itF (d : D) : Option (List D) := match d with
  | .list ds => some ds
  | .tuple ds => some ds
  | .dict kvs => some (kvs.map (·.1))
  | _ => none
def iA (m : OM) : LM := fun ρ => eb (m ρ) fun d => lift (itF d)
theorem DI.any {tg : Expr} (k : Cok X C) {m : OM} (h : DV X C e m) : DI X C tg e (iA m) := PI.imp (pi_any h) fun σ H R q => by
  refine ei_V q fun ρ F d s hy hx hr v H' F' g x => ?_
  obtain ⟨r, hr⟩ := hr
  cases d <;> try (simp [itF, lift] at hr; done)
  · cases x with
    | lst h1 h2 => exact ⟨_, rfl, .inl ⟨⟨_, k.K ▸ h1.sq⟩, hy _ rfl _ H' F' g (ItOk.lst k.K h1 h2)⟩⟩
  · cases x with
    | tup h1 h2 => exact ⟨_, rfl, .inr (.inl ⟨⟨_, k.K ▸ h1⟩, hy _ rfl _ H' F' g (ItOk.tup k.K h1 h2)⟩)⟩
  · cases x with
    | dic h1 h2 h3 => exact ⟨_, rfl, .inr (.inr ⟨_, _, by rw [← k.w]; exact h1, by have := hy _ rfl _ H' F' g (ItOk.dic h1 h2 rfl h3); rwa [k.w] at this⟩)⟩
end
end TS
/-! T16: a dict of lists that grow (near), built by a comprehension and a loop -/
namespace TS
open PySem PySem.Spec PyProof.Rows L2

/-- entries whose values are lists, not let go yet -/
inductive RpM (w : World) (K : Frg) (H : Hp) (F : Addr → Prop) : List Ent → List (D × List D) → Prop
  | nil : RpM w K H F [] []
  | cons {nk : NK} {kb b : Addr} {xs : List V} {es : List Ent} {dk : D} {ds : List D} {kls : List (D × List D)} : nkey dk = some nk → nk.depth ≤ 8 → imm dk = true → Rp w K H F (.ref kb) dk → H b = some (.lst xs) → RpA w K H F xs ds → RpM w K H F es kls → RpM w K H F ((nk, kb, .ref b) :: es) ((dk, ds) :: kls)
def frK (kls : List (D × List D)) : List (D × D) := kls.map fun e => (e.1, .list e.2)
def Hid (a : Addr) (es : List Ent) (x : Addr) : Prop := x = a ∨ V.ref x ∈ es.map (·.2.2)
def mFind (kls : List (D × List D)) (k : NK) : Option (List D) := (kls.find? fun e => decide (nkey e.1 = some k)).map (·.2)
def mApp (kls : List (D × List D)) (k : NK) (d : D) : List (D × List D) := kls.map fun e => if nkey e.1 = some k then (e.1, e.2 ++ [d]) else e
section
variable {w : World} {K : Frg} {H H' : Hp} {F F' : Addr → Prop}
theorem RpM.all : ∀ {es : List Ent} {kls : List (D × List D)}, RpM w K H F es kls → RpK w K H All es (frK kls)
  | _, _, .nil => .nil
  | _, _, .cons h1 h2 h3 h4 h5 h6 h7 => .cons h1 h2 h3 h4.all (.lst (.inl ⟨h5, True.intro⟩) h6.all) (RpM.all h7)
theorem RpM.mono (k : Keep F H H') (f : ∀ a, F a → F' a) : ∀ {es : List Ent} {kls : List (D × List D)}, RpM w K H F es kls → (∀ x, V.ref x ∈ es.map (·.2.2) → H' x = H x) → RpM w K H' F' es kls
  | _, _, .nil, _ => .nil
  | _, _, .cons h1 h2 h3 h4 h5 h6 h7, hh => .cons h1 h2 h3 (Rp.mono k f _ _ h4) ((hh _ (List.mem_cons_self ..)).trans h5) (RpA.mono k f _ _ h6) (RpM.mono k f h7 fun x hx => hh x (List.mem_cons_of_mem _ hx))
/-- all let go -/
theorem RpM.fr (hf : ∀ a, F a → F' a) : ∀ {es : List Ent} {kls : List (D × List D)}, RpM w K H F es kls → (∀ x, V.ref x ∈ es.map (·.2.2) → F' x) → RpK w K H F' es (frK kls)
  | _, _, .nil, _ => .nil
  | _, _, .cons h1 h2 h3 h4 h5 h6 h7, hh => .cons h1 h2 h3 (Rp.mono Le.refl.keep hf _ _ h4) (.lst (.inl ⟨h5, hh _ (List.mem_cons_self ..)⟩) (RpA.mono Le.refl.keep hf _ _ h6)) (RpM.fr hf h7 fun x hx => hh x (List.mem_cons_of_mem _ hx))
theorem RpM.find {k : NK} : ∀ {es : List Ent} {kls : List (D × List D)} {ds : List D}, RpM w K H F es kls → mFind kls k = some ds → ∃ b xs, eFind es k = some (.ref b) ∧ H b = some (.lst xs) ∧ RpA w K H F xs ds
  | _, _, _, .nil, e => by cases e
  | _, _, ds, .cons (nk := nk) (dk := dk) h1 h2 h3 h4 h5 h6 h7, e => by
    by_cases q : nk = k
    · subst q
      simp [mFind, h1] at e
      subst e
      exact ⟨_, _, by simp [eFind], h5, h6⟩
    · have q2 : ¬ nkey dk = some k := by rw [h1]; exact fun z => q (Option.some.inj z)
      obtain ⟨b, xs, z1, z2, z3⟩ := RpM.find (k := k) h7 (by simpa [mFind, q2] using e)
      exact ⟨b, xs, by simpa [eFind, q] using z1, z2, z3⟩
theorem eFind_mem {es : List Ent} {k : NK} {v : V} (h : eFind es k = some v) : v ∈ es.map (·.2.2) := by
  unfold eFind at h
  obtain ⟨e, h1, h2⟩ := Option.map_eq_some_iff.mp h
  exact h2 ▸ List.mem_map_of_mem (List.mem_of_find?_eq_some h1)
theorem eFind_key {es : List Ent} {k : NK} {v : V} (h : eFind es k = some v) : ∃ e ∈ es, e.1 = k ∧ e.2.2 = v := by
  unfold eFind at h
  obtain ⟨e, h1, h2⟩ := Option.map_eq_some_iff.mp h
  exact ⟨e, List.mem_of_find?_eq_some h1, by simpa using List.find?_some h1, h2⟩
/-- one of the lists grows -/
theorem RpM.app {k : NK} {b : Addr} {xs : List V} {v : V} {d : D} (hb : H b = some (.lst xs)) (hf : ¬ F b) (hv : Rp w K H F v d) : ∀ {es : List Ent} {kls : List (D × List D)}, RpM w K H F es kls → (es.map (·.1)).Nodup → (es.map (·.2.2)).Nodup → (∀ e ∈ es, (e.1 = k ↔ e.2.2 = .ref b)) → RpM w K (upd H b (.lst (xs ++ [v]))) F es (mApp kls k d)
  | _, _, .nil, _, _, _ => .nil
  | _, _, .cons (nk := nk) (kb := kb) (b := b') (xs := xs') (dk := dk) h1 h2 h3 h4 h5 h6 h7, n1, n2, hh => by
    have kp : Keep F H (upd H b (.lst (xs ++ [v]))) := Keep.upd hb True.intro hf
    have n1' := (List.nodup_cons.mp n1).2
    have n2' := (List.nodup_cons.mp n2).2
    have ih := RpM.app hb hf hv h7 n1' n2' fun e he => hh e (List.mem_cons_of_mem _ he)
    have h0 := hh _ (List.mem_cons_self ..)
    by_cases q : nk = k
    · have q' : b' = b := by have := h0.mp q; simpa using this
      subst q q'
      simp only [mApp, List.map_cons, h1, if_pos]
      rw [hb] at h5; cases h5
      exact .cons h1 h2 h3 (Rp.mono kp (fun _ z => z) _ _ h4) upd_same (RpA.append (RpA.mono kp (fun _ z => z) _ _ h6) (.cons (Rp.mono kp (fun _ z => z) _ _ hv) .nil)) ih
    · have q2 : ¬ nkey dk = some k := by rw [h1]; exact fun z => q (Option.some.inj z)
      have nb : b' ≠ b := fun z => q (h0.mpr (by rw [z]))
      simp only [mApp, List.map_cons, if_neg q2]
      exact .cons h1 h2 h3 (Rp.mono kp (fun _ z => z) _ _ h4) (by rw [upd_ne nb]; exact h5) (RpA.mono kp (fun _ z => z) _ _ h6) ih
end
/-- the near dict stands at slot i, nobody's yet -/
structure Nr (C : Cc) (H : Hp) (F : Addr → Prop) (σ : L2.St) (ρ : Regs) (a : Addr) (es : List Ent) (ep : Nat) (kls : List (D × List D)) : Prop where
  at_ : H a = some (dicO C.w a es ep)
  rp : RpM C.w C.K H F es kls
  nd : (es.map (·.2.2)).Nodup
  nk : (es.map (·.1)).Nodup
  hid : ∀ x, Hid a es x → ¬ F x ∧ C.H0 x = none ∧ ∀ i, ¬ Own σ ρ i x
section
variable {C : Cc} {H H' : Hp} {F F' : Addr → Prop} {σ σ' : L2.St} {ρ ρ' : Regs} {a : Addr} {es : List Ent} {ep : Nat} {kls : List (D × List D)}
theorem RpM.obj {w : World} {K : Frg} : ∀ {es : List Ent} {kls : List (D × List D)}, RpM w K H F es kls → ∀ {x : Addr}, V.ref x ∈ es.map (·.2.2) → ∃ xs, H x = some (.lst xs)
  | _, _, .nil, x, h => by cases h
  | _, _, .cons h1 h2 h3 h4 h5 h6 h7, x, h => by
    rcases List.mem_cons.mp h with e | e
    · cases e; exact ⟨_, h5⟩
    · exact RpM.obj h7 e
theorem Nr.obj (n : Nr C H F σ ρ a es ep kls) {x : Addr} (h : Hid a es x) : ∃ u, H x = some u ∧ Mut (some u) := by
  rcases h with rfl | h
  · exact ⟨_, n.at_, True.intro⟩
  · obtain ⟨xs, e⟩ := n.rp.obj h
    exact ⟨_, e, True.intro⟩
open Classical in
/-- a block's standing where slot i keeps v -/
noncomputable def blkF (C : Cc) (H : Hp) (F : Addr → Prop) (σ : L2.St) (ρ : Regs) (i : Nat) (v : V) : Cc := ⟨C.w, C.K, fun a => if ∃ i, Own σ ρ i a then none else H a, F, noW, fun j => if j = i then some v else none⟩
theorem blkF_cok {X : Cx} {i : Nat} {v : V} (k : Cok X C) : Cok X (blkF C H F σ ρ i v) := ⟨k.K, k.w, k.nd, k.un, noW_takes⟩
open Classical in
theorem SR.blkF {i : Nat} {v : V} (s : SR C H F σ ρ) (hv : σ[i]? = some (some v)) : SR (blkF C H F σ ρ i v) H F σ ρ := by
  have b := s.blk
  refine ⟨b.len, b.at_, b.dist, b.h0, b.f0, b.fnew, b.fdom, fun j u e => ?_⟩
  have e : (if j = i then some v else none) = some u := e
  split at e
  · rename_i h; cases e; subst h; exact hv
  · cases e
open Classical in
theorem SR.backF {i : Nat} {v : V} (s : SR C H F σ ρ) (hfx : ∀ i, C.fx i = none) (b : SR (TS.blkF C H F σ ρ i v) H' F' σ' ρ') : SR C H' F' σ' ρ' := by
  have h0 : ∀ a, (if ∃ i, Own σ ρ i a then none else H a) = none → C.H0 a = none := fun a q => by
    split at q
    · rename_i w
      obtain ⟨j, o⟩ := w
      exact (s.own_at o).2.2
    · exact s.fresh0 q
  refine ⟨b.len, fun j r e => ?_, b.dist, fun x o e => ?_, fun x h => b.f0 x (s.f0 x h), fun x h => ?_, b.fdom, fun j u e => by rw [hfx] at e; cases e⟩
  · obtain ⟨u, h1, h2⟩ := b.at_ j r e
    refine ⟨u, h1, RvAt.re (C := TS.blkF C H F σ ρ i v) rfl rfl (fun hr x ex => ?_) h2⟩
    exact h0 x (b.own_at ⟨ex ▸ h1, r, e, hr⟩).2.2
  · refine b.h0 x o ?_
    show (if ∃ i, Own σ ρ i x then none else H x) = some o
    rw [if_neg (fun ⟨j, ow⟩ => by have := (s.own_at ow).2.2; rw [e] at this; cases this)]
    exact s.h0 x o e
  · rcases b.fnew x h with q | q
    · exact s.fnew x q
    · exact .inr (h0 x q)
open Classical in
/-- near through a block -/
theorem Nr.through {i : Nat} {v : V} (n : Nr C H F σ ρ a es ep kls) (k : Kp H F H' F') (b : SR (TS.blkF C H F σ ρ i v) H' F' σ' ρ') : Nr C H' F' σ' ρ' a es ep kls := by
  have hx : ∀ x, Hid a es x → (TS.blkF C H F σ ρ i v).H0 x = H x := fun x h => if_neg (fun ⟨j, o⟩ => (n.hid x h).2.2 j o)
  have he : ∀ x, Hid a es x → H' x = H x := fun x h => by
    obtain ⟨u, e, _⟩ := n.obj h
    rw [e]
    exact b.h0 x u ((hx x h).trans e)
  refine ⟨(he a (.inl rfl)).trans n.at_, n.rp.mono k.keep k.ff fun x h => he x (.inr h), n.nd, n.nk, fun x h => ⟨fun z => ?_, (n.hid x h).2.1, fun j o => ?_⟩⟩
  · obtain ⟨u, e, _⟩ := n.obj h
    rcases b.fnew x z with q | q
    · exact (n.hid x h).1 q
    · rw [hx x h, e] at q; cases q
  · obtain ⟨u, e, _⟩ := n.obj h
    have := (b.own_at o).2.2
    rw [hx x h, e] at this; cases this
end
/-! ### near[x].append(y) -/
section
variable {X : Cx} {C : Cc} {p pos pos' apos cpos : Pos}
def rIxM (C : Cc) : R2 := fun x y H Q => ∃ a b es ep kvs F dk k v, x = .ref a ∧ y = .ref b ∧ H a = some (dicO C.w a es ep) ∧ RpK C.w C.K H F es kvs ∧ Rp C.w C.K H F (.ref b) dk ∧ kOf dk = some k ∧ eFind es k = some v ∧ Q v H
theorem ix_M (k : Cok X C) : IxR X (rIxM C) := by
  intro value slice pins s σ H x y v u Q I rx ry h hs
  obtain ⟨a, b, es, ep, kvs, F, dk, nk, z, rfl, rfl, h1, h3, hy, hko, y1, q⟩ := h
  cases rx
  cases ry
  rw [k.w] at h1
  rw [k.w, k.K] at h3 hy
  obtain ⟨q1, q2, us, q3, q4⟩ := dic_of I h1 h3
  rcases withV_at (k := nk) q3 with ⟨z1, z2⟩ | ⟨v', u', b', z1, z2, z3⟩
  · rw [z1] at y1; cases y1
  · rw [z1] at y1
    cases y1
    exact tail_any q4.typeIs PySem.F.slot_dict_getitem.lookup (wpAny_getItem_heap k.room (key_is I hko hy) q4 z2 ⟨_, H, I.tok _, z3, q⟩) hs
/-- x_i[k].append(e): i is near's slot -/
def tNApp (C : Cc) (i j l : Nat) : L2.TS := fun D σ H => ∃ F ρ a es ep kls dk nk ds d u, SR C H F σ ρ ∧ σ[i]? = some (some (.ref a)) ∧ Nr C H F σ ρ a es ep kls ∧ ρ[j]? = some (some (.val dk)) ∧ ρ[l]? = some (some (.val d)) ∧ kOf dk = some nk ∧ mFind kls nk = some ds ∧ ds.length < 1000 ∧ σ[l]? = some (some u) ∧
  ∀ H', Kp H F H' F → SR C H' F σ ρ → Nr C H' F σ ρ a es ep (mApp kls nk d) → D.nx σ H'
theorem ps_napp (k : Cok X C) (hc : X.calm = true) {i j l : Nat} {x y z : Str} {p1 p2 p3 p4 : Pos} (hx : X.N[i]? = some x) (vx : Vis X.env.scope x) (dx : (x == ("__debug__" : Str)) = false) (cx : (x == ("__classdict__" : Str)) = false)
    (hy : X.N[j]? = some y) (vy : Vis X.env.scope y) (dy : (y == ("__debug__" : Str)) = false) (cy : (y == ("__classdict__" : Str)) = false) (hz : X.N[l]? = some z) (vz : Vis X.env.scope z) (dz : (z == ("__debug__" : Str)) = false) (cz : (z == ("__classdict__" : Str)) = false)
    (hix : PlainIx (.Name y p2)) (hbase : attributeBase (.Subscript (.Name x p1) (.Name y p2) p3) "append" X.env (eval (.Subscript (.Name x p1) (.Name y p2) p3) X.env) = eval (.Subscript (.Name x p1) (.Name y p2) p3) X.env)
    (hfew : ((backTo cpos (starEach [.Name z p4] X.env)).all (fun x => !x.1) && (backToKw cpos (keywordEach [] X.env)).all (fun x => x.1.isSome)
      && decide ([Expr.Name z p4].length + ([] : List Keyword).length + (if ([] : List Keyword).isEmpty then 0 else 1) < 30)) = true)
    (hline : (apos.endLine == cpos.line) = true) (hs : starEach [.Name z p4] X.env = (false, eval (.Name z p4) X.env) :: starEach [] X.env) (hplain : (backTo cpos (starEach [] X.env)).any (·.1) = false)
    (hs2 : swapsWith (.Call (.Attribute (.Subscript (.Name x p1) (.Name y p2) p3) "append" apos) [.Name z p4] [] cpos) none pos.line X.env = pure false) :
    PS X (.Expr (.Call (.Attribute (.Subscript (.Name x p1) (.Name y p2) p3) "append" apos) [.Name z p4] [] cpos) pos) (tNApp C i j l) :=
  PS.imp (ps_expr (pe_bm (T := "list") F.plainAttrs_list F.slot_list_append F.type_list_append (mt_append (X := X)) (pe_ix (ix_M k) (pe_var hx vx dx cx) (pe_var hy vy dy cy) hix) (pa_cons (X := X) (pe_var hz vz dz cz) pa_nil hs) hbase hfew hline hs hplain) hs2) fun En σ H q => by
    obtain ⟨F, ρ, a, es, ep, kls, dk, nk, ds, d, u, s, ea, n, ek, ed, hko, hf, hl, eu, hq⟩ := q
    obtain ⟨vk, ek1, ek2⟩ := s.at_ j _ ek
    obtain ⟨vd, ed1, ed2⟩ := s.at_ l _ ed
    rw [eu] at ed1; cases ed1
    obtain ⟨b0, rfl⟩ := Rp.key_ref hko ek2
    obtain ⟨b, xs, hfi, hb, hra⟩ := n.rp.find hf
    have hid : Hid a es b := .inr (eFind_mem hfi)
    obtain ⟨nf, n0, no⟩ := n.hid b hid
    refine ⟨_, ea, _, ek1, a, b0, es, ep, _, All, dk, nk, _, rfl, rfl, n.at_, n.rp.all, Rp.all ek2, hko, hfi, .inl ⟨rfl, xs, .inl (.inl hb)⟩, _, eu, b, xs, u, rfl, rfl, hb, by rw [hra.length, sizeLine_eq]; omega, ?_⟩
    have kp : Keep F H (upd H b (.lst (xs ++ [u]))) := Keep.upd hb True.intro nf
    have hab : a ≠ b := by rintro rfl; rw [n.at_] at hb; cases hb
    refine hq _ ⟨kp, fun _ z => z⟩ (s.upd_free hb nf True.intro n0 no) ⟨by rw [upd_ne hab]; exact n.at_, n.rp.app hb nf ed2 n.nk n.nd (fun e he => ?_), n.nd, n.nk, n.hid⟩
    obtain ⟨e0, m0, k0, v0⟩ := eFind_key hfi
    have uniq : ∀ {es : List Ent}, (es.map (·.1)).Nodup → (es.map (·.2.2)).Nodup → e ∈ es → e0 ∈ es → (e.1 = e0.1 ↔ e.2.2 = e0.2.2) := by
      intro es
      induction es with
      | nil => intro _ _ h; cases h
      | cons e1 es ih =>
        intro n1 n2 h1 h2
        obtain ⟨a1, a2⟩ := List.nodup_cons.mp (show (e1.1 :: es.map (·.1)).Nodup from n1)
        obtain ⟨b1, b2⟩ := List.nodup_cons.mp (show (e1.2.2 :: es.map (·.2.2)).Nodup from n2)
        rcases List.mem_cons.mp h1 with rfl | h1
        · rcases List.mem_cons.mp h2 with rfl | h2
          · exact ⟨fun _ => rfl, fun _ => rfl⟩
          · exact ⟨fun z => absurd (z ▸ List.mem_map_of_mem h2) a1, fun z => absurd (z ▸ List.mem_map_of_mem (f := fun e : Ent => e.2.2) h2) b1⟩
        · rcases List.mem_cons.mp h2 with h2 | h2
          · subst h2
            exact ⟨fun z => absurd (z ▸ List.mem_map_of_mem ‹e ∈ es›) a1, fun z => absurd (z ▸ List.mem_map_of_mem (f := fun e : Ent => e.2.2) ‹e ∈ es›) b1⟩
          · exact ih a2 b2 h1 h2
    rw [← k0, ← v0]
    exact uniq n.nk n.nd he m0
end
end TS
/-! T17: near = {f: [] ..}; the loop that fills it -/
namespace TS
open PySem PySem.Spec PyProof.Rows L2

def mNear : List D → List (D × List D) → Option (List (D × List D))
  | [], acc => some acc
  | d :: ds, acc => match kOf d with
    | some k => if acc.length < 1000 ∧ (mFind acc k).isNone = true then mNear ds (acc ++ [(d, [])]) else none
    | none => none
theorem RpM.snoc {w : World} {K : Frg} {H : Hp} {F : Addr → Prop} {k : NK} {kb b : Addr} {d : D} (hk : kOf d = some k) (hb : Rp w K H F (.ref kb) d) (h : H b = some (.lst [])) : ∀ {es : List Ent} {kls : List (D × List D)}, RpM w K H F es kls → RpM w K H F (es ++ [(k, kb, .ref b)]) (kls ++ [(d, [])])
  | _, _, .nil => by
    obtain ⟨_, h1, h2⟩ := kOf_some hk
    exact .cons h1 h2 (nkey_imm _ _ h1) hb h .nil .nil
  | _, _, .cons h1 h2 h3 h4 h5 h6 h7 => .cons h1 h2 h3 h4 h5 h6 (RpM.snoc hk hb h h7)
theorem RpM.none {w : World} {K : Frg} {H : Hp} {F : Addr → Prop} {k : NK} : ∀ {es : List Ent} {kls : List (D × List D)}, RpM w K H F es kls → (mFind kls k).isNone = true → k ∉ es.map (·.1)
  | _, _, .nil, _ => by simp
  | _, _, .cons (nk := nk) (dk := dk) h1 h2 h3 h4 h5 h6 h7, e => by
    by_cases q : nk = k
    · subst q
      simp [mFind, h1] at e
    · have q2 : ¬ nkey dk = some k := by rw [h1]; exact fun z => q (Option.some.inj z)
      have ih := RpM.none (k := k) h7 (by simpa [mFind, q2] using e)
      intro z
      rcases List.mem_cons.mp z with z | z
      · exact q z.symm
      · exact ih z
theorem eFind_none {es : List Ent} {k : NK} (h : k ∉ es.map (·.1)) : eFind es k = none := by
  unfold eFind
  rw [List.find?_eq_none.mpr (fun e he => by simpa using fun z => h (by rw [← z]; exact List.mem_map_of_mem he))]
  rfl
theorem RpM.length {w : World} {K : Frg} {H : Hp} {F : Addr → Prop} : ∀ {es : List Ent} {kls : List (D × List D)}, RpM w K H F es kls → es.length = kls.length
  | _, _, .nil => rfl
  | _, _, .cons _ _ _ _ _ _ h => by simp [RpM.length h]
theorem SR.setNone {C : Cc} {H : Hp} {F : Addr → Prop} {σ : L2.St} {ρ : Regs} {i : Nat} {v : V} (s : SR C H F σ ρ) (h : ρ[i]? = some none) (hf : C.fx i = none) : SR C H F (σ.set i (some v)) ρ := by
  have own : ∀ {j a}, Own (σ.set i (some v)) ρ j a → Own σ ρ j a := fun {j a} ⟨h1, r, h2, h3⟩ => by
    by_cases hj : j = i
    · subst hj; rw [h] at h2; cases h2
    · rw [List.getElem?_set_ne (Ne.symm hj)] at h1; exact ⟨h1, r, h2, h3⟩
  refine ⟨by rw [List.length_set]; exact s.len, fun j r e => ?_, fun j k a o1 o2 => s.dist j k a (own o1) (own o2), s.h0, s.f0, s.fnew, s.fdom, fun j u e => ?_⟩
  · by_cases hj : j = i
    · subst hj; rw [h] at e; cases e
    · rw [List.getElem?_set_ne (Ne.symm hj)]; exact s.at_ j r e
  · by_cases hj : j = i
    · subst hj; rw [hf] at e; cases e
    · rw [List.getElem?_set_ne (Ne.symm hj)]; exact s.fx j u e
section
variable {X : Cx} {C : Cc}
/-- near (slot i) is made; fl: the slot of the block's name -/
def tNear0 (C : Cc) (i iF fl : Nat) : L2.TS := fun D σ H => ∃ ρ F ds kls, SR C H F σ ρ ∧ (∀ i, C.fx i = none) ∧ iA (vVar iF) ρ = some (.inl ds) ∧ mNear ds [] = some kls ∧ ρ[i]? = some none ∧ fl < ρ.length ∧
  ∀ σ' H' F' a es ep, Kp H F H' F' → SR C H' F' σ' ρ → σ'[i]? = some (some (.ref a)) → Nr C H' F' σ' ρ a es ep kls → D.nx σ' H'
theorem ps_near0 (k : Cok X C) (hc : X.calm = true) {i iF fl : Nat} {y fN xF : Str} {py p1 p2 p3 p4 pos spos : Pos} {scope : Scope} (hy : X.N[i]? = some y) (hyl : X.env.scope.names.lookup y = some .local)
    (hF : DV X C (.Name xF p1) (vVar iF)) (hfl : X.N[fl]? = some fN) (ok : BlkOk X.N X.env.scope scope [(fN, fl)])
    (hsw : swapsWith (.DictComp (.Name fN p2) (.List [] p3) [⟨.Name fN p4, .Name xF p1, [], 0⟩] scope pos) (some (.Name y py)) spos.line X.env = pure true)
    (hg : ∀ (s : Shared) (H : Hp) (c : Addr) (cl : List (Str × Addr)) (fp : List Addr), PG (BlkX X s H scope c cl fp) (.Name fN p4) (gName fl))
    (hv : ∀ (s : Shared) (H : Hp) (c : Addr) (cl : List (Str × Addr)) (fp : List Addr), Vis (BlkX X s H scope c cl fp).env.scope fN) (hd : (fN == ("__debug__" : Str)) = false) (hcd : (fN == ("__classdict__" : Str)) = false) :
    PS X (.Assign [.Name y py] (.DictComp (.Name fN p2) (.List [] p3) [⟨.Name fN p4, .Name xF p1, [], 0⟩] scope pos) spos) (tNear0 C i iF fl) :=
  PS.imp (ps_setDcO (wi := tI C X.mg (iA (vVar iF))) (g := gName fl) (tt := tYes) (tk := tVar fl) (tv := tLst tNil) k hc hy hyl hsw (DI.any k hF) ok hg (fun _ _ _ _ _ => pts_nil) (fun s H c cl fp => pe_var (X := BlkX X s H scope c cl fp) hfl (hv s H c cl fp) hd hcd) (fun _ _ _ _ _ => pe_lst pa_nil)) fun En σ H q => by
    obtain ⟨ρ, F, ds, all, s, hfx, hi, hm, hni, hfl2, hq⟩ := q
    refine ⟨ρ, F, _, s, hi, fun J H1 F1 g hit Da hDa => ?_⟩
    have ew : X.w = C.w := k.w.symm
    have no1 : ∀ i, ¬ Own σ ρ i Da := g.sr.not_own hDa
    have nF1 : ¬ F1 Da := g.sr.freshF hDa
    have h01 : C.H0 Da = none := g.sr.fresh0 hDa
    refine ⟨fun i m H2 => ∃ F2 ds2 es ep acc, m = ds2.length ∧ Le H1 H2 ∧ Kp H1 F1 H2 F2 ∧ SR C H2 F2 σ ρ ∧ Nr C H2 F2 σ ρ Da es ep acc ∧ mNear ds2 acc = some all ∧ ItOk C J i H2 F2 ds2, ?_, ?_⟩
    · have kn : Kp H1 F1 (upd H1 Da (dicO X.w Da [] 0)) F1 := (Le.new hDa).kp
      refine ⟨ds.length, F1, ds, [], 0, [], rfl, Le.new hDa, kn, g.sr.le (Le.new hDa), ⟨by rw [← ew]; exact upd_same, .nil, by simp, by simp, fun x hx => ?_⟩, hm, hit.kp kn⟩
      rcases hx with rfl | hx
      · exact ⟨nF1, h01, no1⟩
      · simp at hx
    rintro i2 m H2 ⟨F2, ds2, es, ep, acc, rfl, le2, kp2, s2, n2, hm2, it2⟩
    cases ds2 with
    | nil =>
      cases hm2
      refine .inl ⟨it2 H2 F2 .refl, ?_⟩
      refine hq _ H2 F2 Da es ep (g.kp.trans kp2) (s2.setNone hni (hfx _)) ?_ ⟨n2.at_, n2.rp, n2.nd, n2.nk, fun x hx => ⟨(n2.hid x hx).1, (n2.hid x hx).2.1, fun j o => ?_⟩⟩
      · have : i < σ.length := by rw [← s.len]; exact (List.getElem?_eq_some_iff.mp hni).1
        rw [List.getElem?_set_self this]
      · obtain ⟨z1, r, z2, z3⟩ := o
        by_cases hj : j = i
        · subst hj; rw [hni] at z2; cases z2
        · rw [List.getElem?_set_ne (Ne.symm hj)] at z1
          exact (n2.hid x hx).2.2 j ⟨z1, r, z2, z3⟩
    | cons d ds2 =>
      obtain ⟨go, nxt⟩ := it2 H2 F2 .refl
      unfold mNear at hm2
      cases hko : kOf d with
      | none => rw [hko] at hm2; cases hm2
      | some kk =>
        simp only [hko] at hm2
        split at hm2
        case isFalse => cases hm2
        rename_i hcnd
        refine .inr ⟨go, fun H3 => ∃ F3 es ep acc, Le H1 H3 ∧ Kp H1 F1 H3 F3 ∧ SR C H3 F3 σ ρ ∧ Nr C H3 F3 σ ρ Da es ep acc ∧ mNear ds2 acc = some all ∧ ItOk C J (i2 + 1) H3 F3 ds2,
          fun H3 ⟨F3, es, ep, acc, h⟩ => ⟨ds2.length, Nat.lt_succ_self _, F3, ds2, es, ep, acc, rfl, h⟩, fun x H3 y => ?_⟩
        obtain ⟨le3, x3, it3⟩ := nxt x H3 y
        refine ⟨?_, x, ?_, by simp [sizeLine_eq], fun p hp => ?_⟩
        · have : L2.wipe ((L2.wipe σ [fl]).set fl (some x)) [fl] = L2.wipe (L2.wipe σ [fl]) [fl] := wipe_set (List.mem_cons_self ..)
          exact this.trans wipe_wipe
        · have : fl < (L2.wipe σ [fl]).length := by rw [wipe_length, ← s.len]; exact hfl2
          show ((L2.wipe σ [fl]).set fl (some x))[fl]? = _
          rw [List.getElem?_set_self this]
        · obtain ⟨bk, rfl⟩ := Rp.key_ref hko x3
          have s3 := s2.le le3
          have n3 : Nr C H3 F2 σ ρ Da es ep acc := ⟨le3 _ _ n2.at_, n2.rp.mono le3.keep (fun _ z => z) (fun x hx => by
            obtain ⟨xs, e⟩ := n2.rp.obj hx
            rw [e]; exact le3 _ _ e), n2.nd, n2.nk, n2.hid⟩
          have le4 : Le H3 (upd H3 p (.lst [])) := Le.new hp
          have s4 := s3.le le4
          have hpD : Da ≠ p := by rintro rfl; rw [n3.at_] at hp; cases hp
          have n4 : RpM C.w C.K (upd H3 p (.lst [])) F2 es acc := n3.rp.mono le4.keep (fun _ z => z) fun x hx => by
            obtain ⟨xs, e⟩ := n3.rp.obj hx
            rw [e]; exact le4 _ _ e
          have hD4 : (upd H3 p (.lst [])) Da = some (dicO C.w Da es ep) := le4 _ _ n3.at_
          have x4 : Rp C.w C.K (upd H3 p (.lst [])) F2 (.ref bk) d := Rp.mono le4.keep (fun _ z => z) _ _ x3
          refine ⟨bk, es, ep, _, kk, d, All, rfl, by rw [ew]; exact hD4, by rw [ew, ← k.K]; exact n4.all, by rw [ew, ← k.K]; exact x4.all, hko, by rw [n4.length, sizeLine_eq]; omega, fun ep' => ?_⟩
          rw [ew]
          have nk := n4.none hcnd.2
          have eput : ePut es kk bk (.ref p) = es ++ [(kk, bk, .ref p)] := by unfold ePut; rw [eFind_none nk]; rfl
          rw [eput]
          have nfD := (n3.hid Da (.inl rfl))
          have hp0 : H2 p = none := by
            cases q : H2 p with
            | none => rfl
            | some o => have := le3 _ _ q; rw [hp] at this; cases this
          have nfp := s3.freshF hp
          have nop := s3.not_own hp
          have n0p := s3.fresh0 hp
          have ku : Keep F2 (upd H3 p (.lst [])) (upd (upd H3 p (.lst [])) Da (dicO C.w Da (es ++ [(kk, bk, .ref p)]) ep')) := Keep.upd hD4 True.intro nfD.1
          have npm : V.ref p ∉ es.map (·.2.2) := fun z => by
            obtain ⟨xs, e⟩ := n3.rp.obj z
            rw [hp] at e; cases e
          have k8 : Kp (upd H3 p (.lst [])) F2 (upd (upd H3 p (.lst [])) Da (dicO C.w Da (es ++ [(kk, bk, .ref p)]) ep')) F2 := ⟨ku, fun _ z => z⟩
          refine ⟨F2, es ++ [(kk, bk, .ref p)], ep', acc ++ [(d, [])], fun a o h => ?_, (kp2.trans le3.kp).trans (le4.kp.trans k8), s4.upd_free hD4 nfD.1 True.intro nfD.2.1 nfD.2.2, ⟨upd_same, ?_, ?_, ?_, fun x hx => ?_⟩, hm2, it3.kp (le4.kp.trans k8)⟩
          · have ne : a ≠ Da := by rintro rfl; rw [hDa] at h; cases h
            rw [upd_ne ne]; exact le4 _ _ (le3 _ _ (le2 _ _ h))
          · refine RpM.snoc hko (Rp.mono ku (fun _ z => z) _ _ x4) (by rw [upd_ne (Ne.symm hpD)]; exact upd_same) (n4.mono ku (fun _ z => z) fun x hx => ?_)
            rw [upd_ne]
            rintro rfl
            obtain ⟨xs, e⟩ := n4.obj hx
            rw [hD4] at e; cases e
          · rw [List.map_append]
            exact List.nodup_append.mpr ⟨n3.nd, by simp, fun a ha b hb => by
              simp at hb; subst hb; rintro rfl; exact npm ha⟩
          · rw [List.map_append]
            exact List.nodup_append.mpr ⟨n3.nk, by simp, fun a ha b hb => by
              simp at hb; subst hb; rintro rfl; exact nk ha⟩
          · rcases hx with rfl | hx
            · exact nfD
            · rw [List.map_append] at hx
              rcases List.mem_append.mp hx with hx | hx
              · exact n3.hid x (.inr hx)
              · simp at hx
                subst hx
                exact ⟨nfp, n0p, nop⟩
/-! ### the loop -/
def nLoop (iN iB jO jT : Nat) (mA : SM) : List D → Regs → List (D × List D) → Option (Regs × List (D × List D))
  | [], ρ, kls => some (ρ, kls)
  | d :: ds, ρ, kls => match mA (ρ.set iB (some (.val d))) with
    | some (.nx ρ2) => match ρ2[iN]?, ρ2[jO]?, ρ2[jT]? with
      | some none, some (some (.val d1)), some (some (.val d2)) => match kOf d1, kOf d2 with
        | some k1, some k2 => match mFind kls k1 with
          | some l1 => match mFind (mApp kls k1 d2) k2 with
            | some l2 => if l1.length < 1000 ∧ l2.length < 1000 then nLoop iN iB jO jT mA ds ρ2 (mApp (mApp kls k1 d2) k2 d1) else none
            | none => none
          | none => none
        | _, _ => none
      | _, _, _ => none
    | _ => none
def tNearL (C : Cc) (mg : Str → Option Value) (iN iB jO jT : Nat) (l : LM) (mA : SM) : L2.TS := fun D σ H => ∃ ρ F ds a es ep kls ρ2 kls2, SR C H F σ ρ ∧ (∀ i, C.fx i = none) ∧ σ[iN]? = some (some (.ref a)) ∧ Nr C H F σ ρ a es ep kls ∧ iB ≠ iN ∧ l ρ = some (.inl ds) ∧ nLoop iN iB jO jT mA ds ρ kls = some (ρ2, kls2) ∧
  ∀ σ' H' F', Kp H F H' F' → SR C H' F' σ' ρ2 → σ'[iN]? = some (some (.ref a)) → Nr C H' F' σ' ρ2 a es ep kls2 → D.nx σ' H'
def tBody (C : Cc) (mg : Str → Option Value) (mA : SM) (iN : Nat) : L2.TS := fun D σ H => ∃ C' : Cc, (∀ j, j ≠ iN → C'.fx j = none) ∧ Cok' C C' ∧ tSt C' mg mA D σ H
where Cok' (C C' : Cc) : Prop := C'.K = C.K ∧ C'.w = C.w ∧ C'.W = noW
theorem Nr.le {H H' : Hp} {F : Addr → Prop} {σ : L2.St} {ρ : Regs} {a : Addr} {es : List Ent} {ep : Nat} {kls : List (D × List D)} (n : Nr C H F σ ρ a es ep kls) (h : Le H H') : Nr C H' F σ ρ a es ep kls :=
  ⟨h _ _ n.at_, n.rp.mono h.keep (fun _ z => z) fun x hx => by
    obtain ⟨xs, e⟩ := n.rp.obj hx
    rw [e]; exact h _ _ e, n.nd, n.nk, n.hid⟩
theorem Nr.vals {H : Hp} {F : Addr → Prop} {σ : L2.St} {ρ : Regs} {a : Addr} {es : List Ent} {ep : Nat} {kls : List (D × List D)} {i : Nat} {v : V} {d : D} (n : Nr C H F σ ρ a es ep kls) : Nr C H F (σ.set i (some v)) (ρ.set i (some (.val d))) a es ep kls :=
  ⟨n.at_, n.rp, n.nd, n.nk, fun x hx => ⟨(n.hid x hx).1, (n.hid x hx).2.1, fun j ⟨z1, r, z2, z3⟩ => by
    by_cases hj : j = i
    · subst hj
      rw [List.getElem?_set_self'] at z2
      cases e : ρ[j]? with
      | none => rw [e] at z2; cases z2
      | some u => rw [e] at z2; simp at z2; subst z2; cases z3
    · rw [List.getElem?_set_ne (Ne.symm hj)] at z1 z2
      exact (n.hid x hx).2.2 j ⟨z1, r, z2, z3⟩⟩⟩
theorem ItOk.cc {C' : Cc} {J : It} (hw : C'.w = C.w) (hK : C'.K = C.K) : ∀ {ds : List D} {i : Nat} {H : Hp} {F : Addr → Prop}, ItOk C' J i H F ds → ItOk C J i H F ds
  | [], i, H, F, h => h
  | d :: ds, i, H, F, h => fun H' F' k => ⟨(h H' F' k).1, fun x H'' y => let ⟨a, b, c⟩ := (h H' F' k).2 x H'' y; ⟨a, by rw [← hw, ← hK]; exact b, ItOk.cc hw hK c⟩⟩
theorem ps_nearL (k : Cok X C) (hc : X.calm = true) (hp : PassesOwn (model X.prog X.w) X.A X.env X.xe) {iN iB jO jT : Nat} {tg iter : Expr} {pos : Pos} {stA stB stC : Stmt} {l : LM} {mA : SM} (hi : ∀ C', Cok X C' → (∀ j, j ≠ iN → C'.fx j = none) → DI X C' tg iter l) (hg : DG X tg (.one iB))
    (hA : ∀ C', Cok X C' → (∀ j, j ≠ iN → C'.fx j = none) → DS X C' stA mA) (hB : PS X stB (tNApp C iN jO jT)) (hC : PS X stC (tNApp C iN jT jO)) (hs : ∀ x, foldedSetIterable iter X.env x = pure x := by intro _; rfl) :
    PS X (.For tg iter [stA, stB, stC] [] pos) (tNearL C X.mg iN iB jO jT l mA) := by
  have hA' : PS X stA (tBody C X.mg mA iN) := ⟨fun pins s σ H D I ⟨C', h1, ⟨h2, h3, h4⟩, q⟩ => (hA C' ⟨h2.trans k.K, h3.trans k.w, k.nd, k.un, by rw [h4]; exact noW_takes⟩ h1).run pins s σ H D I q⟩
  have hi' : PI X tg iter (fun σ H R => ∃ C' : Cc, (∀ j, j ≠ iN → C'.fx j = none) ∧ tBody.Cok' C C' ∧ tI C' X.mg l σ H R) := ⟨fun pins s σ H R I ⟨C', h1, ⟨h2, h3, h4⟩, q⟩ => (hi C' ⟨h2.trans k.K, h3.trans k.w, k.nd, k.un, by rw [h4]; exact noW_takes⟩ h1).run pins s σ H R I q⟩
  refine PS.imp (ps_for hp hc hi' hg (pss_cons hA' (pss_cons hB (pss_one hC))) hs) fun En σ H q => ?_
  obtain ⟨ρ, F, ds, a, es, ep, kls, ρe, klse, s, hfx, ea, n, hne, hl, hm, hq⟩ := q
  have fxb : ∀ {H : Hp} {F : Addr → Prop} {σ : L2.St} {ρ : Regs} (j : Nat), j ≠ iN → (blkF C H F σ ρ iN (.ref a)).fx j = none := fun j hj => if_neg hj
  refine ⟨blkF C H F σ ρ iN (.ref a), fxb, ⟨rfl, rfl, rfl⟩, ρ, F, _, s.blkF ea, hl, fun J H1 F1 g hit => ?_⟩
  have s1 : SR C H1 F1 σ ρ := s.backF hfx g.sr
  have n1 : Nr C H1 F1 σ ρ a es ep kls := n.through g.kp g.sr
  refine ⟨fun i m σ2 H2 => ∃ ρ2 F2 ds2 kls2, m = ds2.length ∧ Kp H F H2 F2 ∧ SR C H2 F2 σ2 ρ2 ∧ σ2[iN]? = some (some (.ref a)) ∧ Nr C H2 F2 σ2 ρ2 a es ep kls2 ∧ nLoop iN iB jO jT mA ds2 ρ2 kls2 = some (ρe, klse) ∧ ItOk C J i H2 F2 ds2, ⟨ds.length, ρ, F1, ds, kls, rfl, g.kp, s1, ea, n1, hm, ItOk.cc (C := C) (C' := blkF C H F σ ρ iN (.ref a)) rfl rfl hit⟩, ?_⟩
  rintro i m σ2 H2 ⟨ρ2, F2, ds2, kls2, rfl, kp2, s2, e2, n2, hm2, it2⟩
  cases ds2 with
  | nil =>
    cases hm2
    exact .inl ⟨it2 H2 F2 .refl, hq σ2 H2 F2 kp2 s2 e2 n2⟩
  | cons d ds2 =>
    obtain ⟨go, nxt⟩ := it2 H2 F2 .refl
    refine .inr ⟨go, fun σ3 H3 => ∃ ρ3 F3 kls3, Kp H F H3 F3 ∧ SR C H3 F3 σ3 ρ3 ∧ σ3[iN]? = some (some (.ref a)) ∧ Nr C H3 F3 σ3 ρ3 a es ep kls3 ∧ nLoop iN iB jO jT mA ds2 ρ3 kls3 = some (ρe, klse) ∧ ItOk C J (i + 1) H3 F3 ds2,
      fun σ3 H3 ⟨ρ3, F3, kls3, h1, h2, h3, h4, h5, h6⟩ => ⟨ds2.length, Nat.lt_succ_self _, ρ3, F3, ds2, kls3, rfl, h1, h2, h3, h4, h5, h6⟩, fun x H3 y => ?_⟩
    obtain ⟨le3, x3, it3⟩ := nxt x H3 y
    have s3 : SR C H3 F2 (σ2.set iB (some x)) (ρ2.set iB (some (.val d))) := (s2.le le3).vals x3 (hfx _)
    have n3 : Nr C H3 F2 (σ2.set iB (some x)) (ρ2.set iB (some (.val d))) a es ep kls2 := (n2.le le3).vals
    have e3 : (σ2.set iB (some x))[iN]? = some (some (.ref a)) := by rw [List.getElem?_set_ne hne]; exact e2
    have kp3 : Kp H F H3 F2 := kp2.trans le3.kp
    unfold nLoop at hm2
    cases hA1 : mA (ρ2.set iB (some (.val d))) with
    | none => rw [hA1] at hm2; cases hm2
    | some o =>
      rw [hA1] at hm2
      cases o with
      | rt _ _ => cases hm2
      | ex _ _ => cases hm2
      | bk _ => cases hm2
      | ct _ => cases hm2
      | nx ρ4 =>
        simp only at hm2
        refine ⟨blkF C H3 F2 (σ2.set iB (some x)) (ρ2.set iB (some (.val d))) iN (.ref a), fxb, ⟨rfl, rfl, rfl⟩, _, F2, _, s3.blkF e3, hA1, fun σ4 H4 F4 kp4 s4 => ?_⟩
        have s4' : SR C H4 F4 σ4 ρ4 := s3.backF hfx s4
        have n4 : Nr C H4 F4 σ4 ρ4 a es ep kls2 := n3.through kp4 s4
        have e4 : σ4[iN]? = some (some (.ref a)) := s4.fx iN _ (if_pos rfl)
        split at hm2
        case h_2 => cases hm2
        rename_i d1 d2 r1 r2 r3
        cases hk1 : kOf d1 with
        | none => simp only [hk1] at hm2; cases hm2
        | some k1 =>
          cases hk2 : kOf d2 with
          | none => simp only [hk1, hk2] at hm2; cases hm2
          | some k2 =>
            simp only [hk1, hk2] at hm2
            cases hf1 : mFind kls2 k1 with
            | none => simp only [hf1] at hm2; cases hm2
            | some l1 =>
              simp only [hf1] at hm2
              cases hf2 : mFind (mApp kls2 k1 d2) k2 with
              | none => simp only [hf2] at hm2; cases hm2
              | some l2 =>
                simp only [hf2] at hm2
                split at hm2
                case isFalse => cases hm2
                rename_i hlen
                obtain ⟨u1, w1, _⟩ := s4'.at_ jO _ r2
                obtain ⟨u2, w2, _⟩ := s4'.at_ jT _ r3
                refine ⟨F4, ρ4, a, es, ep, kls2, d1, k1, l1, d2, u2, s4', e4, n4, r2, r3, hk1, hf1, hlen.1, w2, fun H5 kp5 s5 n5 => ?_⟩
                refine ⟨F4, ρ4, a, es, ep, _, d2, k2, l2, d1, u1, s5, e4, n5, r3, r2, hk2, hf2, hlen.2, w1, fun H6 kp6 s6 n6 => ?_⟩
                exact ⟨ρ4, F4, _, ((kp3.trans kp4).trans kp5).trans kp6, s6, e4, n6, hm2, it3.kp ((kp4.trans kp5).trans kp6)⟩
/-! ### near is let go -/
theorem SR.frNear {H : Hp} {F : Addr → Prop} {σ : L2.St} {ρ : Regs} {a : Addr} {es : List Ent} {ep i : Nat} {kls : List (D × List D)} (s : SR C H F σ ρ) (n : Nr C H F σ ρ a es ep kls) (e : σ[i]? = some (some (.ref a))) (h : ρ[i]? = some none) :
    ∃ F', Kp H F H F' ∧ SR C H F' σ (ρ.set i (some (.val (.dict (frK kls))))) := by
  refine ⟨fun x => F x ∨ Hid a es x, ⟨Le.refl.keep, fun _ z => .inl z⟩, ?_⟩
  refine ⟨by rw [List.length_set]; exact s.len, fun j r ej => ?_, fun j k b o1 o2 => ?_, s.h0, fun x z => .inl (s.f0 x z), fun x z => ?_, fun x z => ?_, s.fx⟩
  · by_cases hj : j = i
    · subst hj
      rw [List.getElem?_set_self (List.getElem?_eq_some_iff.mp h).1] at ej
      cases ej
      exact ⟨_, e, .dic n.at_ (.inr (.inl rfl)) (n.rp.fr (fun _ z => .inl z) fun x hx => .inr (.inr hx))⟩
    · rw [List.getElem?_set_ne (Ne.symm hj)] at ej
      obtain ⟨v, h1, h2⟩ := s.at_ j r ej
      refine ⟨v, h1, ?_⟩
      cases r with
      | val d => exact Rp.mono Le.refl.keep (fun _ z => .inl z) d v h2
      | ownL ds =>
        obtain ⟨b, xs, q, h3, h4, h5, h6⟩ := h2
        refine ⟨b, xs, q, h3, fun z => z.elim h4 fun z => (n.hid b z).2.2 j ⟨by rw [h1, q], _, ej, rfl⟩, h5, RpA.mono Le.refl.keep (fun _ z => .inl z) ds xs h6⟩
      | ownD kvs =>
        obtain ⟨b, es', ep', q, h3, h4, h5, h6⟩ := h2
        refine ⟨b, es', ep', q, h3, fun z => z.elim h4 fun z => (n.hid b z).2.2 j ⟨by rw [h1, q], _, ej, rfl⟩, h5, RpK.mono Le.refl.keep (fun _ z => .inl z) kvs es' h6⟩
  · have cv : ∀ {j}, Own σ (ρ.set i (some (.val (.dict (frK kls))))) j b → Own σ ρ j b := fun {j} ⟨z1, r, z2, z3⟩ => by
      by_cases hj : j = i
      · subst hj; rw [List.getElem?_set_self (List.getElem?_eq_some_iff.mp h).1] at z2; cases z2; cases z3
      · rw [List.getElem?_set_ne (Ne.symm hj)] at z2; exact ⟨z1, r, z2, z3⟩
    exact s.dist j k b (cv o1) (cv o2)
  · rcases z with z | z
    · exact s.fnew x z
    · exact .inr (n.hid x z).2.1
  · rcases z with z | z
    · exact s.fdom x z
    · obtain ⟨u, e, _⟩ := n.obj z
      exact ⟨u, e⟩
/-- both statements, and the rest -/
def sNear (iN iF fl iB jO jT : Nat) (l : LM) (mA m : SM) : SM := fun ρ => match iA (vVar iF) ρ with
  | some (.inl fs) => match mNear fs [] with
    | some kls => match ρ[iN]?, l ρ with
      | some none, some (.inl hs) => match nLoop iN iB jO jT mA hs ρ kls with
        | some (ρ2, kls2) => (match ρ2[iN]? with
          | some none => if fl < ρ.length then m (ρ2.set iN (some (.val (.dict (frK kls2))))) else none
          | _ => none)
        | none => none
      | _, _ => none
    | none => none
  | _ => none
theorem DSs.near {st1 st2 : Stmt} {rest : List Stmt} {iN iF fl iB jO jT : Nat} {l : LM} {mA m : SM} (hfx : ∀ i, C.fx i = none) (hne : iB ≠ iN) (h1 : PS X st1 (tNear0 C iN iF fl)) (h2 : PS X st2 (tNearL C X.mg iN iB jO jT l mA)) (h3 : DSs X C rest m) : DSs X C (st1 :: st2 :: rest) (sNear iN iF fl iB jO jT l mA m) :=
  PSs.imp (pss_cons h1 (pss_cons h2 h3)) fun En σ H ⟨ρ, F, o, s, e, w⟩ => by
    unfold sNear at e
    split at e
    case h_2 => cases e
    rename_i fs hf
    split at e
    case h_2 => cases e
    rename_i kls hm
    split at e
    case h_2 => cases e
    rename_i hs hni hl
    split at e
    case h_2 => cases e
    rename_i ρ2 kls2 hm2
    split at e
    case h_2 => cases e
    rename_i hni2
    split at e
    case isFalse => cases e
    rename_i hlen
    refine ⟨ρ, F, fs, kls, s, hfx, hf, hm, hni, hlen, fun σ' H' F' a es ep kp s' ea n => ?_⟩
    refine ⟨ρ, F', hs, a, es, ep, kls, ρ2, kls2, s', hfx, ea, n, hne, hl, hm2, fun σ2 H2 F2 kp2 s2 ea2 n2 => ?_⟩
    obtain ⟨F3, kp3, s3⟩ := s2.frNear n2 ea2 hni2
    exact ⟨_, F3, o, s3, e, w.kp ((kp.trans kp2).trans kp3)⟩
end
end TS
/-! T18: a def of three parameters that changes the dict handed as the third; its call within append -/
namespace TS
open PySem PySem.Spec PyProof.Rows L2

def spIO (w : World) (K : Frg) (N : List Str) (m : SM) : Sp := fun vs H Q E => ∃ (F : Addr → Prop) (vf vn : V) (a : Addr) (df dn rv : D) (es : List Ent) (ep : Nat) (kvs kvs' : List (D × D)) (ρ' : Regs),
  vs = [vf, vn, .ref a] ∧ (∀ x, F x → ∃ o, H x = some o) ∧ H a = some (dicO w a es ep) ∧ ¬ F a ∧ RpK w K H F es kvs ∧ Rp w K H F vf df ∧ Rp w K H F vn dn ∧
  m ([some (.val df), some (.val dn), some (.ownD kvs)] ++ List.replicate (N.length - 3) none) = some (.rt (.val rv) ρ') ∧ ρ'[2]? = some (some (.ownD kvs')) ∧
  ∀ v H' F' es' ep', (∀ x o, x ≠ a → H x = some o → H' x = some o) → (∀ x, F x → F' x) → (∀ x, F' x → F x ∨ H x = none) → (∀ x, F' x → ∃ o, H' x = some o) → H' a = some (dicO w a es' ep') → ¬ F' a → RpK w K H' F' es' kvs' → Rp w K H' F' v rv → Q v H'
abbrev CCx (w : World) (K : Frg) (H0 : Hp) (F0 : Addr → Prop) (E : XK) (a : Addr) : Cc := ⟨w, K, fun x => if x = a then none else H0 x, F0, fun cls d _ H' => E cls d H', fun i => if i = 2 then some (.ref a) else none⟩
def FnIO (P : Program) (w : World) (K : Frg) (mg : Str → Option Value) (base : Heap) (x : Str) (k : Nat) (N : List Str) (m : SM) : Prop :=
  ∃ f fd ps, ps.length = 3 ∧ FnOk P w K mg base (L2.CX P w) k f fd ps (spIO w K N m) ∧ mg x = some (.ref f) ∧ PySem.W.keepIn K (.ref f) = true ∧ Binds K fd ps []
theorem FnIO.of {P : Program} {w : World} {K : PySem.W.Frag} {mg : Str → Option Value} {base : Heap} {x : Str} {params : Arguments} {body : List Stmt} {scope : Scope} {f : Addr} {fd : FuncData} {N ps : List Str} {k : Nat} {m : SM}
    (F : FunD K x x params body scope [] [] f fd) (hm : mg x = some (.ref f)) (S : FnScope N ps scope) (hps : ps.length = 3)
    (hb : ∀ (kV doc pm : Value) (an : Option Addr) (cdv ct : Value) (us : List Value), us.length = ps.length → bindArgs (PySem.W.fnOf x x params body scope .none kV doc pm an cdv ct) ⟨us, []⟩ = pure (ps.zip us))
    (hbody : ∀ (cdv : Value) (A : Around) (outer : List Env) (s : Shared) (H : Hp) (E : XK) (F0 : Addr → Prop) (a : Addr), Room k (A.deeper (envOfC x scope s.heap.objs.size f cdv)) → Cok (XX P w K mg base N x scope f cdv A outer s H E) (CCx w K H F0 E a) → DSs (XX P w K mg base N x scope f cdv A outer s H E) (CCx w K H F0 E a) body m) :
    FnIO P w K mg base x (k + 1) N m := by
  refine ⟨f, fd, ps, hps, F.ok S (fun vs H Q E h => by obtain ⟨_, _, _, _, _, _, _, _, _, _, _, _, h, _⟩ := h; rw [h, hps]; rfl) fun cdv A outer s H vs Q E hr hsp => ?_, hm, F.kp, F.bindsN hb⟩
  obtain ⟨F0, vf, vn, a, df, dn, rv, es, ep, kvs, kvs', ρ', rfl, hdom, hH, hF, hK, hdf, hdn, hmm, h2, hq⟩ := hsp
  have kc : Cok (XX P w K mg base N x scope f cdv A outer s H E) (CCx w K H F0 E a) := ⟨rfl, rfl, S.nd, by have := hr.un; show (A.deeper _).units + 100 < cLine; omega, takes_of rfl rfl rfl rfl⟩
  refine ⟨_, hbody cdv A outer s H E F0 a hr kc, ?_⟩
  have s0 : SR (CCx w K H F0 E a) H F0 (L2.start N [vf, vn, .ref a]) ([some (.val df), some (.val dn), some (.ownD kvs)] ++ List.replicate (N.length - 3) none) := by
    have rest : ∀ {i : Nat} {r : RV}, ([some (.val df), some (.val dn), some (.ownD kvs)] ++ List.replicate (N.length - 3) none : Regs)[i + 3]? = some (some r) → False := fun {i r} e => by
      rw [List.getElem?_append_right (by simp)] at e
      have := List.mem_of_getElem? e
      simp at this
    refine ⟨by simp [L2.start], fun i r e => ?_, fun i j b o1 o2 => ?_, fun x o e => ?_, fun _ h => h, fun _ h => .inl h, hdom, fun i v e => ?_⟩
    · match i with
      | 0 => cases e; exact ⟨vf, rfl, hdf⟩
      | 1 => cases e; exact ⟨vn, rfl, hdn⟩
      | 2 => cases e; exact ⟨.ref a, rfl, a, es, ep, rfl, hH, hF, if_pos rfl, hK⟩
      | i + 3 => exact (rest e).elim
    · have own2 : ∀ {i : Nat}, Own (L2.start N [vf, vn, .ref a]) ([some (.val df), some (.val dn), some (.ownD kvs)] ++ List.replicate (N.length - 3) none) i b → i = 2 := fun {i} ⟨_, r, e, ho⟩ => by
        match i with
        | 0 => cases e; cases ho
        | 1 => cases e; cases ho
        | 2 => rfl
        | i + 3 => exact (rest e).elim
      rw [own2 o1, own2 o2]
    · have e : (if x = a then none else H x) = some o := e
      split at e
      · cases e
      · exact e
    · have e : (if i = 2 then some (V.ref a) else none) = some v := e
      split at e
      · rename_i h; cases e; subst h; rfl
      · cases e
  refine ⟨_, F0, _, s0, hmm, fun v σ' H' F' kp s' ho => ?_⟩
  obtain ⟨b, es', ep', eb, ow, hb1, hb2, hb3, hb4⟩ := s'.regD (i := 2) (kvs := kvs') (by unfold regD; rw [h2])
  have := s'.fx 2 (.ref a) rfl
  rw [eb] at this
  cases this
  refine hq v H' F' es' ep' (fun x o ne e => s'.h0 x o ?_) s'.f0 (fun x h => ?_) s'.fdom hb1 hb2 hb4 ho
  · show (if x = a then none else H x) = some o
    rw [if_neg ne]; exact e
  · rcases s'.fnew x h with q | q
    · exact .inl q
    · have q : (if x = a then none else H x) = none := q
      split at q
      · rename_i h'; subst h'; exact (hb2 h).elim
      · exact .inr q
section
variable {X : Cx} {C : Cc}
theorem SR.io {H H' : Hp} {F F' : Addr → Prop} {σ : L2.St} {ρ : Regs} {j : Nat} {a : Addr} {es' : List Ent} {ep' : Nat} {kvs' : List (D × D)} (s : SR C H F σ ρ) (ow : Own σ ρ j a) (h1 : ∀ x o, x ≠ a → H x = some o → H' x = some o) (h2 : ∀ x, F x → F' x) (h3 : ∀ x, F' x → F x ∨ H x = none) (h4 : ∀ x, F' x → ∃ o, H' x = some o)
    (h5 : H' a = some (dicO C.w a es' ep')) (h6 : ¬ F' a) (h7 : RpK C.w C.K H' F' es' kvs') : SR C H' F' σ (ρ.set j (some (.ownD kvs'))) ∧ Kp H F H' F' := by
  obtain ⟨⟨u, hp, hm⟩, hf, h0⟩ := s.own_at ow
  have kp : Keep F H H' := ⟨fun x xs e => h1 x _ (by rintro rfl; rw [hp] at e; cases e; exact hm) e, fun x o v e => h1 x _ (by rintro rfl; rw [hp] at e; cases e; exact hm) e, fun x o h e => h1 x o (by rintro rfl; exact hf h) e⟩
  refine ⟨⟨by rw [List.length_set]; exact s.len, fun i r e => ?_, fun i k b o1 o2 => ?_, fun b u' e => ?_, fun b z => h2 b (s.f0 b z), fun b z => ?_, h4, s.fx⟩, ⟨kp, h2⟩⟩
  · by_cases hj : i = j
    · subst hj
      rw [List.getElem?_set_self'] at e
      cases e2 : ρ[i]? with
      | none => rw [e2] at e; cases e
      | some u =>
        rw [e2] at e
        simp at e
        subst e
        exact ⟨_, ow.1, a, es', ep', rfl, h5, h6, h0, h7⟩
    · rw [List.getElem?_set_ne (Ne.symm hj)] at e
      obtain ⟨v, q1, q2⟩ := s.at_ i r e
      refine ⟨v, q1, ?_⟩
      have nn : ∀ {b : Addr} {o : HO}, H b = some o → ¬ F b → b ≠ a → ¬ F' b := fun {b o} hb nf ne z => by
        rcases h3 b z with z | z
        · exact nf z
        · rw [hb] at z; cases z
      cases r with
      | val d => exact Rp.mono kp h2 d v q2
      | ownL ds =>
        obtain ⟨b, xs, q, q3, q4, q5, q6⟩ := q2
        have ne : b ≠ a := fun z => hj (s.dist i j a ⟨by rw [q1, q, z], _, e, rfl⟩ ow)
        exact ⟨b, xs, q, h1 b _ ne q3, nn q3 q4 ne, q5, RpA.mono kp h2 ds xs q6⟩
      | ownD kvs =>
        obtain ⟨b, es, ep, q, q3, q4, q5, q6⟩ := q2
        have ne : b ≠ a := fun z => hj (s.dist i j a ⟨by rw [q1, q, z], _, e, rfl⟩ ow)
        exact ⟨b, es, ep, q, h1 b _ ne q3, nn q3 q4 ne, q5, RpK.mono kp h2 kvs es q6⟩
  · have cv : ∀ {i}, Own σ (ρ.set j (some (.ownD kvs'))) i b → Own σ ρ i b := fun {i} ⟨z1, r, z2, z3⟩ => by
      by_cases hj : i = j
      · subst hj
        obtain ⟨e1, r', e2, e3⟩ := ow
        exact ⟨z1, r', e2, e3⟩
      · rw [List.getElem?_set_ne (Ne.symm hj)] at z2; exact ⟨z1, r, z2, z3⟩
    exact s.dist i k b (cv o1) (cv o2)
  · have ne : b ≠ a := by rintro rfl; rw [h0] at e; cases e
    exact h1 b u' ne (s.h0 b u' e)
  · rcases h3 b z with z | z
    · exact s.fnew b z
    · exact .inr (s.fresh0 z)
/-- x.append(f(field, near, seen)) -/
def sLot (iL iF iN iS : Nat) (N : List Str) (m : SM) : SM := fun ρ => match regL ρ iL, ρ[iF]?, ρ[iN]?, regD ρ iS with
  | some ds, some (some (.val df)), some (some (.val dn)), some kvs => match m ([some (.val df), some (.val dn), some (.ownD kvs)] ++ List.replicate (N.length - 3) none) with
    | some (.rt (.val rv) ρ') => match regD ρ' 2 with
      | some kvs' => if ds.length < 1000 ∧ iL ≠ iS then some (.nx ((ρ.set iS (some (.ownD kvs'))).set iL (some (.ownL (ds ++ [rv]))))) else none
      | _ => none
    | _ => none
  | _, _, _, _ => none
theorem DS.lot (k : Cok X C) {iL iF iN iS kk : Nat} {N : List Str} {m : SM} {x y z u t : Str} {p1 p2 p3 p4 p5 apos cpos cp2 pos : Pos} (f : FnIO X.prog X.w X.K X.mg X.base t kk N m) (hr : Room kk X.A) (hg : Gl X t)
    (hx : X.N[iL]? = some x) (vx : Vis X.env.scope x) (dx : (x == ("__debug__" : Str)) = false) (cx : (x == ("__classdict__" : Str)) = false)
    (hy : X.N[iF]? = some y) (vy : Vis X.env.scope y) (dy : (y == ("__debug__" : Str)) = false) (cy : (y == ("__classdict__" : Str)) = false)
    (hz : X.N[iN]? = some z) (vz : Vis X.env.scope z) (dz : (z == ("__debug__" : Str)) = false) (cz : (z == ("__classdict__" : Str)) = false)
    (hu : X.N[iS]? = some u) (vu : Vis X.env.scope u) (du : (u == ("__debug__" : Str)) = false) (cu : (u == ("__classdict__" : Str)) = false)
    (hdb : (t == ("__debug__" : Str)) = false := by decide) (he : starEach [.Name y p2, .Name z p3, .Name u p4] X.env = (false, eval (.Name y p2) X.env) :: starEach [.Name z p3, .Name u p4] X.env := by rfl) (hpl : (backTo cp2 (starEach [.Name z p3, .Name u p4] X.env)).any (·.1) = false := by rfl)
    (he2 : starEach [.Name z p3, .Name u p4] X.env = (false, eval (.Name z p3) X.env) :: starEach [.Name u p4] X.env := by rfl) (he3 : starEach [.Name u p4] X.env = (false, eval (.Name u p4) X.env) :: starEach [] X.env := by rfl)
    (hbase : attributeBase (.Name x p1) "append" X.env (eval (.Name x p1) X.env) = eval (.Name x p1) X.env := by rfl)
    (hfew : ((backTo cpos (starEach [.Call (.Name t p5) [.Name y p2, .Name z p3, .Name u p4] [] cp2] X.env)).all (fun x => !x.1) && (backToKw cpos (keywordEach [] X.env)).all (fun x => x.1.isSome)
      && decide ([Expr.Call (.Name t p5) [.Name y p2, .Name z p3, .Name u p4] [] cp2].length + ([] : List Keyword).length + (if ([] : List Keyword).isEmpty then 0 else 1) < 30)) = true := by rfl)
    (hline : (apos.endLine == cpos.line) = true := by rfl) (hs : starEach [.Call (.Name t p5) [.Name y p2, .Name z p3, .Name u p4] [] cp2] X.env = (false, eval (.Call (.Name t p5) [.Name y p2, .Name z p3, .Name u p4] [] cp2) X.env) :: starEach [] X.env := by rfl) (hplain : (backTo cpos (starEach [] X.env)).any (·.1) = false := by rfl)
    (hs2 : swapsWith (.Call (.Attribute (.Name x p1) "append" apos) [.Call (.Name t p5) [.Name y p2, .Name z p3, .Name u p4] [] cp2] [] cpos) none pos.line X.env = pure false := by rfl) :
    DS X C (.Expr (.Call (.Attribute (.Name x p1) "append" apos) [.Call (.Name t p5) [.Name y p2, .Name z p3, .Name u p4] [] cp2] [] cpos) pos) (sLot iL iF iN iS N m) := by
  obtain ⟨f, fd, ps, hn, Fk, hm, hk, hb⟩ := f
  refine PS.imp (ps_expr (pe_bm (T := "list") F.plainAttrs_list F.slot_list_append F.type_list_append (mt_append (X := X)) (pe_var hx vx dx cx) (pa_cons (X := X) (pe_callS Fk hr hg hm hk hb (passAt k.tk) (pa_cons (pe_var hy vy dy cy) (pa_cons (pe_var hz vz dz cz) (pa_cons (pe_var hu vu du cu) pa_nil he3) he2) he) hdb he hpl) pa_nil hs) hbase hfew hline hs hplain) hs2) fun En σ H q => ?_
  obtain ⟨ρ, F, o, s, e, w⟩ := q
  unfold sLot at e
  split at e
  case h_2 => cases e
  rename_i ds df dn kvs r1 r2 r3 r4
  split at e
  case h_2 => cases e
  rename_i rv ρ' hmm
  split at e
  case h_2 => cases e
  rename_i kvs' h2
  have h2 := regD_some h2
  split at e
  case isFalse => cases e
  rename_i hc
  cases e
  obtain ⟨l, xs, el, owl, hl1, hl2, hl3, hl4⟩ := s.regL r1
  obtain ⟨a, es, ep, ea, owa, ha1, ha2, ha3, ha4⟩ := s.regD r4
  obtain ⟨vf, ef, hf⟩ := s.at_ iF _ r2
  obtain ⟨vn, en, hn'⟩ := s.at_ iN _ r3
  have nla : l ≠ a := fun z => hc.2 (s.dist iL iS a ⟨by rw [el, z], owl.2⟩ owa)
  refine ⟨_, el, .inl ⟨rfl, xs, .inl (.inl hl1)⟩, vf, ef, vn, en, _, ea, ?_⟩
  refine ⟨F, vf, vn, a, df, dn, rv, es, ep, kvs, kvs', ρ', rfl, s.fdom, k.w ▸ ha1, ha2, k.w ▸ k.K ▸ ha4, k.w ▸ k.K ▸ hf, k.w ▸ k.K ▸ hn', hmm, h2, fun v H' F' es' ep' q1 q2 q3 q4 q5 q6 q7 q8 => ?_⟩
  rw [← k.w] at q5
  rw [← k.w, ← k.K] at q7 q8
  obtain ⟨s1, k1⟩ := s.io owa q1 q2 q3 q4 q5 q6 q7
  have r1' : regL (ρ.set iS (some (.ownD kvs'))) iL = some ds := by
    have := regL_some r1
    unfold regL
    rw [List.getElem?_set_ne (Ne.symm hc.2), this]
  obtain ⟨l', xs', el', owl', hl1', hl2', hl3', hl4'⟩ := s1.regL r1'
  rw [el] at el'; cases el'
  refine ⟨l, xs', v, rfl, rfl, hl1', by rw [hl4'.length, sizeLine_eq]; omega, ?_⟩
  have kp : Keep F' H' (upd H' l (.lst (xs' ++ [v]))) := Keep.upd hl1' True.intro hl2'
  obtain ⟨s3, k3⟩ := s1.own_upd (o := .lst (xs' ++ [v])) (rv := .ownL (ds ++ [rv])) owl' rfl ⟨l, _, rfl, upd_same, hl2', hl3', RpA.mono kp (fun _ z => z) _ _ (RpA.append hl4' (.cons q8 .nil))⟩
  exact w _ _ F' (k1.trans k3) s3
end
end TS
/-! T19: a, b = e, f; x.split(y), x.index(y); raise of an own exception with a field -/
namespace TS
open PySem PySem.Spec PyProof.Rows L2

section
variable {X : Cx} {C : Cc} {a b e : Expr} {pos p apos cpos : Pos}
/-! ### two at once -/
def sPar (i j : Nat) (m1 m2 : EM) : SM := sb m1 fun ρ r1 => match m2 ρ with
  | some (.inl r2) => if i = j then none else some (.nx ((ρ.set i (some r1)).set j (some r2)))
  | _ => none
def tEx (C : Cc) (mg : Str → Option Value) (m : EM) : TE := fun σ H Q => ∃ C' : Cc, (∀ i, C'.fx i = none) ∧ Blk C C' ∧ tE C' mg m σ H Q
theorem par_core {mg : Str → Option Value} {i j : Nat} {m1 m2 : EM} {En : Ends} {σ : L2.St} {H : Hp} {R : List V → Hp → Prop} (hfi : C.fx i = none) (hfj : C.fx j = none) (q : tSt C mg (sPar i j m1 m2) En σ H)
    (hR : ∀ v w H2, (∀ H3, Le H2 H3 → En.nx ((σ.set i (some v)).set j (some w)) H3) → R [v, w] H2) :
    tCons (tE C mg m1) (tCons (tEx C mg m2) tNil) σ H R := by
  refine st_E q fun ρ F r1 o s hm e w v H1 F1 g1 x1 => ?_
  cases hm2 : m2 ρ with
  | none => rw [hm2] at e; cases e
  | some rr =>
    rw [hm2] at e
    cases rr with
    | inr _ => cases e
    | inl r2 =>
      simp only at e
      by_cases hij : i = j
      · rw [if_pos hij] at e; cases e
      rw [if_neg hij] at e
      cases e
      refine ⟨blkC C H1 F1 σ ρ, fun _ => rfl, blkC_ok, ρ, F1, _, g1.sr.blk, hm2, fun u H2 F2 g2 x2 => ?_⟩
      have s2 : SR C H2 F2 σ ρ := g1.sr.back (vs := []) g2.sr g2.le g2.ff rfl fun _ _ => ⟨rfl, rfl⟩
      have no1 : ∀ a, v = .ref a → isOwn r1 = true → (∀ k, ¬ Own σ ρ k a) ∧ ∃ o, H1 a = some o := fun a ea ho => by
        obtain ⟨b, eb, n⟩ := x1.2 ho
        rw [eb] at ea; cases ea
        refine ⟨fun k ok => g1.sr0.not_own n k ok, ?_⟩
        cases r1 with
        | val _ => cases ho
        | ownL ds => obtain ⟨c, xs, ec, h1, _⟩ := x1.1; rw [eb] at ec; cases ec; exact ⟨_, h1⟩
        | ownD ds => obtain ⟨c, es, ep, ec, h1, _⟩ := x1.1; rw [eb] at ec; cases ec; exact ⟨_, h1⟩
      have r1' : RvAt C H2 F2 v r1 := by
        cases r1 with
        | val d => exact g2.rp (C := blkC C H1 F1 σ ρ) x1.1
        | ownL ds =>
          obtain ⟨c, xs, ec, h1, h2, h3, h4⟩ := x1.1
          exact ⟨c, xs, ec, g2.le _ _ h1, g2.sr.not_F h1 h2 (no1 c ec rfl).1, h3, RpA.mono g2.le.keep g2.ff _ _ h4⟩
        | ownD ds =>
          obtain ⟨c, es, ep, ec, h1, h2, h3, h4⟩ := x1.1
          exact ⟨c, es, ep, ec, g2.le _ _ h1, g2.sr.not_F h1 h2 (no1 c ec rfl).1, h3, RpK.mono g2.le.keep g2.ff _ _ h4⟩
      have r2' : RvAt C H2 F2 u r2 := RvAt.re (C := blkC C H1 F1 σ ρ) (C2 := C) rfl rfl (fun ho a ea => by
        obtain ⟨b, eb, n⟩ := x2.2 ho
        rw [eb] at ea; cases ea
        exact g1.sr.fresh0 n) x2.1
      have sA : SR C H2 F2 (σ.set i (some v)) (ρ.set i (some r1)) := s2.set r1' (fun ho a ea k => (no1 a ea ho).1 k) hfi
      have sB : SR C H2 F2 ((σ.set i (some v)).set j (some u)) ((ρ.set i (some r1)).set j (some r2)) := sA.set r2' (fun ho a ea k ok => by
        obtain ⟨b, eb, n⟩ := x2.2 ho
        rw [eb] at ea; cases ea
        obtain ⟨z1, r, z2, z3⟩ := ok
        by_cases hk : k = i
        · subst hk
          rw [List.getElem?_set_self'] at z1 z2
          cases q1 : σ[k]? with
          | none => rw [q1] at z1; cases z1
          | some _ =>
            rw [q1] at z1
            cases q2 : ρ[k]? with
            | none => rw [q2] at z2; cases z2
            | some _ =>
              rw [q2] at z2
              simp at z1 z2
              subst z2
              obtain ⟨_, o, ho2⟩ := no1 a z1 z3
              rw [n] at ho2; cases ho2
        · rw [List.getElem?_set_ne (Ne.symm hk)] at z1 z2
          exact g1.sr.not_own n k ⟨z1, r, z2, z3⟩) hfj
      exact hR v u H2 fun H3 le3 => w _ H3 F2 ((g1.kp.trans g2.kp).trans le3.kp) (sB.le le3)
theorem xE (k : Cok X C) {m : EM} (hb : ∀ C' : Cc, (∀ i, C'.fx i = none) → Cok X C' → DE X C' b m) : PE X b (tEx C X.mg m) :=
  ⟨fun pins s' σ H Q I ⟨C', h1, h2, q⟩ => (hb C' h1 ⟨h2.K.trans k.K, h2.w.trans k.w, k.nd, k.un, by rw [h2.W]; exact noW_takes⟩).run pins s' σ H Q I q⟩
theorem DS.parS (k : Cok X C) {i j : Nat} {x y : Str} {m1 m2 : EM} {px py pt : Pos} {kt k2 : Nat} {pt2 : Pos} (hc : X.calm = true) (ha : DE X C a m1) (hb : ∀ C' : Cc, (∀ i, C'.fx i = none) → Cok X C' → DE X C' b m2) (hN : X.N.Nodup) (hi : X.N[i]? = some x) (hj : X.N[j]? = some y) (hij : i ≠ j)
    (hx : X.env.scope.names.lookup x = some .local) (hy : X.env.scope.names.lookup y = some .local) (hfi : C.fx i = none) (hfj : C.fx j = none)
    (hw : swappedStores [.Tuple [.Name x px, .Name y py] kt pt] (.Tuple [a, b] k2 pt2) X.env = pure (some [x, y])) (hs : swapsWithSole [.Tuple [.Name x px, .Name y py] kt pt] (.Tuple [a, b] k2 pt2) pos.line X.env = pure false)
    (h1 : starEach [a, b] X.env = (false, eval a X.env) :: starEach [b] X.env) (h2 : starEach [b] X.env = (false, eval b X.env) :: starEach [] X.env) :
    DS X C (.Assign [.Tuple [.Name x px, .Name y py] kt pt] (.Tuple [a, b] k2 pt2) pos) (sPar i j m1 m2) :=
  PS.imp (ps_par hc hN hi hj hij hx hy (pa_cons (X := X) ha (pa_cons (xE k hb) pa_nil h2) h1) hw hs) fun En σ H q =>
    par_core hfi hfj q fun v w H2 hq => ⟨v, w, rfl, hq H2 Le.refl⟩
theorem DS.parT (k : Cok X C) {i j : Nat} {x y : Str} {m1 m2 : EM} {px py pt : Pos} {kt k2 : Nat} {pt2 : Pos} (hc : X.calm = true) (ha : DE X C a m1) (hb : ∀ C' : Cc, (∀ i, C'.fx i = none) → Cok X C' → DE X C' b m2) (hg : DGs X [.Name x px, .Name y py] [i, j]) (hfi : C.fx i = none) (hfj : C.fx j = none)
    (hn : (assignEach [.Name x px, .Name y py] X.env).length = 2) (hst : (assignEach [.Name x px, .Name y py] X.env).findIdx? (·.1) = none)
    (hw : swappedStores [.Tuple [.Name x px, .Name y py] kt pt] (.Tuple [a, b] k2 pt2) X.env = pure none) (hs : swapsWithSole [.Tuple [.Name x px, .Name y py] kt pt] (.Tuple [a, b] k2 pt2) pos.line X.env = pure false) (h3 : (assignEach [.Tuple [.Name x px, .Name y py] kt pt] X.env).map (·.2) = [assign (.Tuple [.Name x px, .Name y py] kt pt) X.env])
    (h1 : starEach [a, b] X.env = (false, eval a X.env) :: starEach [b] X.env) (h2 : starEach [b] X.env = (false, eval b X.env) :: starEach [] X.env) :
    DS X C (.Assign [.Tuple [.Name x px, .Name y py] kt pt] (.Tuple [a, b] k2 pt2) pos) (sPar i j m1 m2) :=
  PS.imp (ps_asg (pe_tup (pa_cons (X := X) ha (pa_cons (xE k hb) pa_nil h2) h1)) (pg_tup (pos := pt) (k := kt) hc hg hn hst) hs hw h3) fun En σ H q =>
    par_core (R := fun xs H1 => xs.length ≤ sizeLine ∧ ∀ p, H1 p = none → gTup X.K 2 (gNs [i, j]) (.ref p) σ (upd H1 p (.tup xs)) En.nx) hfi hfj q fun v w H2 hq => ⟨by simp [sizeLine_eq], fun p hp => ⟨p, [v, w], rfl, SqT.of upd_same, rfl, v, [w], rfl, w, [], rfl, rfl, hq _ (Le.new hp)⟩⟩
/-! ### texts -/
def strsD (ys : List Str) : List D := ys.map .str
theorem strs_rp {w : World} {K : Frg} {H : Hp} {F : Addr → Prop} : ∀ ys : List Str, RpA w K H F (ys.map V.str) (strsD ys)
  | [] => .nil
  | y :: ys => .cons (.str y) (strs_rp ys)
def splF (a : Str) (e : D) : Option RV := match e with
  | .str b => if (b.length == 0) = false ∧ a.length ≤ 1000000 then some (.ownL (strsD (Txt.split a b))) else none
  | _ => none
def idxSF (a : Str) (e : D) : Option RV := match e with
  | .str b => match Builtin.Str.occurrences a b 0 a.length 1 with
    | i :: _ => some (.val (.int (i : Nat)))
    | [] => none
  | _ => none
def eM1 (f : Str → D → Option RV) (mo ma : OM) : EM := fun ρ => eb (mo ρ) fun d => match d with
  | .str a => eb (ma ρ) fun e => lift (f a e)
  | _ => none
theorem m1_use {mg : Str → Option Value} {f : Str → D → Option RV} {mo ma : OM} {r : V → List V → Hp → VK → Prop} {σ : L2.St} {H : Hp} {Q : VK} {Kf : Frg} (q : tE C mg (eM1 f mo ma) σ H Q)
    (hr : ∀ {ρ F H' F'} (a : Str) (e : D) (rv : RV) (y : V), Gr C σ ρ H F H' F' → f a e = some rv → Rp C.w C.K H' All y e → (∀ v H2 F2, Gr C σ ρ H F H2 F2 → RvNew C H H2 F2 v rv → Q v H2) → r (.str a) [y] H' Q) :
    tBM Kf "str" r (tO C mg mo) (tCons (tO C mg ma) tNil) σ H Q := by
  refine eb_O (m := mo) (f := fun ρ d => match d with | .str a => eb (ma ρ) fun e => lift (f a e) | _ => none) q rfl fun ρ F d s hy hx hrr v H' F' g x => ?_
  obtain ⟨rr, hrr⟩ := hrr
  cases d <;> try cases hrr
  rename_i a
  cases x
  refine ⟨rfl, ?_⟩
  cases hm : ma ρ with
  | none => simp only [hm] at hrr; cases hrr
  | some sb =>
    simp only [hm] at hrr hy hx
    refine ⟨ρ, F', sb, g.sr, hm, ?_⟩
    cases sb with
    | inr z => exact (hx z rfl).step g
    | inl e =>
      intro y H2 F2 g2 y2
      cases hf : f a e with
      | none => simp [eb, lift, hf] at hrr
      | some rv => exact hr a e rv y (g.trans g2) hf y2 fun v H3 F3 g3 x3 => hy rv (by simp [eb, lift, hf]) v H3 F3 g3 x3
theorem DE.split {mo ma : OM} (ho : DO X C e mo) (ha : DO X C a ma) (hbase : attributeBase e "split" X.env (eval e X.env) = eval e X.env := by rfl)
    (hfew : ((backTo cpos (starEach [a] X.env)).all (fun x => !x.1) && (backToKw cpos (keywordEach [] X.env)).all (fun x => x.1.isSome)
      && decide ([a].length + ([] : List Keyword).length + (if ([] : List Keyword).isEmpty then 0 else 1) < 30)) = true := by rfl)
    (hline : (apos.endLine == cpos.line) = true := by rfl) (hs : starEach [a] X.env = (false, eval a X.env) :: starEach [] X.env := by rfl) (hplain : (backTo cpos (starEach [] X.env)).any (·.1) = false := by rfl) :
    DE X C (.Call (.Attribute e "split" apos) [a] [] cpos) (eM1 splF mo ma) :=
  PE.imp (pe_bm (T := "str") F.plainAttrs_str F.slot_str_split F.type_str_split (mt_split (X := X)) ho (pa_cons (X := X) ha pa_nil hs) hbase hfew hline hs hplain) fun σ H Q q => by
    refine m1_use q fun {ρ F H' F'} a e rv y g hf x hq => ?_
    unfold splF at hf
    split at hf
    · rename_i b
      split at hf
      · rename_i hc
        cases hf
        cases x
        refine ⟨a, b, rfl, rfl, hc.1, by rw [sizeLine_eq]; omega, fun p hp => ?_⟩
        have hp0 : H p = none := by
          cases e : H p with
          | none => rfl
          | some o => have := g.le _ _ e; rw [hp] at this; cases this
        exact hq _ _ F' (g.trans (.new g.sr hp)) ⟨⟨p, _, rfl, upd_same, g.sr.freshF hp, g.sr.fresh0 hp, strs_rp _⟩, fun _ => ⟨p, rfl, hp0⟩⟩
      · cases hf
    · cases hf
theorem DE.sidx {mo ma : OM} (ho : DO X C e mo) (ha : DO X C a ma) (hbase : attributeBase e "index" X.env (eval e X.env) = eval e X.env := by rfl)
    (hfew : ((backTo cpos (starEach [a] X.env)).all (fun x => !x.1) && (backToKw cpos (keywordEach [] X.env)).all (fun x => x.1.isSome)
      && decide ([a].length + ([] : List Keyword).length + (if ([] : List Keyword).isEmpty then 0 else 1) < 30)) = true := by rfl)
    (hline : (apos.endLine == cpos.line) = true := by rfl) (hs : starEach [a] X.env = (false, eval a X.env) :: starEach [] X.env := by rfl) (hplain : (backTo cpos (starEach [] X.env)).any (·.1) = false := by rfl) :
    DE X C (.Call (.Attribute e "index" apos) [a] [] cpos) (eM1 idxSF mo ma) :=
  PE.imp (pe_bm (T := "str") F.plainAttrs_str F.slot_str_index F.type_str_index (mt_sindex (X := X)) ho (pa_cons (X := X) ha pa_nil hs) hbase hfew hline hs hplain) fun σ H Q q => by
    refine m1_use q fun {ρ F H' F'} a e rv y g hf x hq => ?_
    unfold idxSF at hf
    split at hf
    · rename_i b
      split at hf
      · rename_i i rest he
        cases hf
        cases x
        exact ⟨a, b, i, rest, rfl, rfl, he, hq _ _ F' g ⟨.int _, fun z => by cases z⟩⟩
      · cases hf
    · cases hf
end
end TS
/-! T20: own exceptions with a field: made, raised -/
namespace TS
open PySem PySem.Spec PyProof.Rows L2

def oexB (K : Frg) (C : Addr) : Bool := (match K.lookup C with
  | some ⟨.type "type", _, .cls cd, sl⟩ => (match cd.mro, sl.toList with
    | .ref C' :: bm, [_, _, _, _, some (.builtin n), _] => C' == C && (n == "ValueError.__new__" && (!cd.hasDel && (cd.hasDict && PySem.HandSPX.refsVE bm)))
    | _, _ => false)
  | _ => false) && (decide (PySem.W.findIn K (.ref C) "__setattr__" = some (some (.builtin "object.__setattr__"))) && (decide (PySem.W.subIn K (.ref C) (.type "BaseException") = some true) && (decide (PySem.W.typeIn K (.ref C) = some (.type "type")) && PySem.W.keepIn K (.ref C))))
theorem oexB_ok {K : Frg} {C : Addr} (h : oexB K C = true) : OexC K C := by
  unfold oexB at h
  obtain ⟨h1, h⟩ := Bool.and_eq_true_iff.mp h
  obtain ⟨h2, h⟩ := Bool.and_eq_true_iff.mp h
  obtain ⟨h3, h⟩ := Bool.and_eq_true_iff.mp h
  obtain ⟨h4, h5⟩ := Bool.and_eq_true_iff.mp h
  refine ⟨?_, of_decide_eq_true h2, of_decide_eq_true h3, of_decide_eq_true h4, h5⟩
  split at h1
  · rename_i dd cd sl ho
    split at h1
    · rename_i C' bm k0 k1 k2 k3 n k5 hm hs
      obtain ⟨e1, h1⟩ := Bool.and_eq_true_iff.mp h1
      obtain ⟨e2, h1⟩ := Bool.and_eq_true_iff.mp h1
      obtain ⟨e3, h1⟩ := Bool.and_eq_true_iff.mp h1
      obtain ⟨e4, e5⟩ := Bool.and_eq_true_iff.mp h1
      have e1 := eq_of_beq e1
      have e2 := eq_of_beq e2
      simp only [Bool.not_eq_true'] at e3
      subst e1 e2
      obtain ⟨nm, bs, mro, ns, qn, hd, sn, sub, ab, col, del⟩ := cd
      dsimp only at hm e3 e4 e5
      subst hm e3 e4
      have hsl : sl = #[k0, k1, k2, k3, some (.builtin "ValueError.__new__"), k5] := by
        obtain ⟨l⟩ := sl
        simp only at hs
        rw [hs]
      subst hsl
      exact ⟨nm, qn, ns, bs, bm, sn, sub, ab, col, dd, k0, k1, k2, k3, k5, ho, e5⟩
    · cases h1
  · cases h1
/-- a class whose __init__ is ValueError's -/
def cinB (K : Frg) (T : Addr) : Bool := decide (PySem.W.specialIn K (.ref T) "__getattribute__" = some (some (.builtin "type.__getattribute__"))) && (decide (PySem.W.typeIn K (.ref T) = some (.type "type")) && (PySem.W.readsIn K T (.type "type") && (match PySem.W.findCls K (.ref T) (.type "type") "__init__" with
  | some (.val (.builtin n)) => n == "ValueError.__init__"
  | _ => false)))
structure CinC (K : Frg) (T : Addr) : Prop where
  sp : PySem.W.specialIn K (.ref T) "__getattribute__" = some (some (.builtin "type.__getattribute__"))
  ty : PySem.W.typeIn K (.ref T) = some (.type "type")
  rd : PySem.W.readsIn K T (.type "type") = true
  fc : PySem.W.findCls K (.ref T) (.type "type") "__init__" = some (.val (.builtin "ValueError.__init__"))
theorem cinB_ok {K : Frg} {T : Addr} (h : cinB K T = true) : CinC K T := by
  unfold cinB at h
  obtain ⟨h1, h⟩ := Bool.and_eq_true_iff.mp h
  obtain ⟨h2, h⟩ := Bool.and_eq_true_iff.mp h
  obtain ⟨h3, h4⟩ := Bool.and_eq_true_iff.mp h
  refine ⟨of_decide_eq_true h1, of_decide_eq_true h2, h3, ?_⟩
  split at h4
  · rename_i n e
    rw [e, eq_of_beq h4]
  · cases h4
section
variable {X : Cx} {e o : Expr} {es : List Expr} {ta : TA} {x f : Str} {T : Addr} {p1 p2 p p' pos : Pos}
theorem pe_cinit {pl : Sem Bool} (c : CinC X.K T) (hg : Gl X x) (hm : X.mg x = some (.ref T)) (hdb : (x == ("__debug__" : Str)) = false) (ha : PA X (e :: es) ta)
    (hc : eval (.Call (.Attribute (.Name x p1) "__init__" p2) (e :: es) [] pos) X.env = (do
      let ov ← eval (.Name x p1) X.env
      standAt p2.atName
      let (f, first) ← holding [ov] (getMethod ov "__init__" pl)
      callWith pos f first (backTo pos (starEach (e :: es) X.env)) (backToKw pos (keywordEach [] X.env))) := by rfl)
    (he : starEach (e :: es) X.env = (false, eval e X.env) :: starEach es X.env := by rfl) (hpl : (backTo pos (starEach es X.env)).any (·.1) = false := by rfl) :
    PE X (.Call (.Attribute (.Name x p1) "__init__" p2) (e :: es) [] pos) (tVeI X.K ta) := by
  refine ⟨fun pins s σ H Q I h => ?_⟩
  refine PySem.W.methodCall_KW (ld_glob I hg hm ?_ hdb) hc
  obtain ⟨m, fr⟩ := I.fr
  refine PySem.W.method_of_cls fr I.ok.mod.kin c.sp (PySem.W.cls_val fr I.ok.mod.kin c.ty c.rd c.fc (by decide +kernel) ?_)
  show wpAny _ _ (callWith pos (Value.builtin "ValueError.__init__") [] (backTo pos (starEach (e :: es) X.env)) []) _ _ _
  refine PyProof.Rows.callWith_method1 (thn (ha.run pos pins _ σ H _ (I.tok _) h) fun us s1 ⟨vs, H1, I1, r1, a, C, ws, ev, hl, T, ea, q⟩ => ?_) he hpl
  subst ev
  cases r1 with
  | @cons _ u0 _ ur ra rw' =>
    obtain rfl : u0 = Value.ref a := ra
    have hlen : ur.length ≤ sizeLine := by
      rw [← Paired.length rw', sizeLine_eq]
      omega
    exact oinit_ok T I1 ea hlen fun s' J => ⟨.non, H1, J, rfl, q⟩
/-- what such an __init__ does -/
def spOI (K : Frg) (f : Str) : Sp := fun vs H Q _ => ∃ (a C : Addr) (y : V), vs = [.ref a, y] ∧ OexC K C ∧ PySem.W.findIn K (.ref C) f = some none ∧ H a = some (exo a C none) ∧ ∀ dx, H dx = none → dx ≠ a → Q .non (upd (upd H dx (exd dx [(f, y)])) a (exo a C (some dx)))
end
/-- the exception class x with its field f: what the module and the written part say -/
def OxX (P : Program) (w : World) (K : Frg) (mg : Str → Option Value) (base : Heap) (x f : Str) (k : Nat) : Prop :=
  ∃ C fI fd ps, mg x = some (.ref C) ∧ OexC K C ∧ PySem.W.findIn K (.ref C) f = some none ∧ PySem.W.findIn K (.ref C) "__init__" = some (some (.ref fI)) ∧ PySem.W.typeIn K (.ref fI) = some (.type "function") ∧ FnOk P w K mg base (L2.CX P w) k fI fd ps (spOI K f) ∧ Binds K fd ps []
section
variable {P : Program} {w : World} {K : PySem.W.Frag} {mg : Str → Option Value} {base : Heap} {x q f : Str} {params : Arguments} {body : List Stmt} {scope : Scope} {fI : Addr} {fd : FuncData} {N ps : List Str} {k : Nat}
/-- the two statements of such an __init__ -/
theorem oi_body {X : Cx} {En : Ends} {T : Addr} {H : Hp} {a C : Addr} {y : V} {rest : L2.St} (hT : OexC X.K C) (hf : PySem.W.findIn X.K (.ref C) f = some none) (ha : H a = some (exo a C none)) (hq : ∀ dx, H dx = none → dx ≠ a → En.nx (some (.ref a) :: some y :: rest) (upd (upd H dx (exd dx [(f, y)])) a (exo a C (some dx)))) {m : Str} :
    tSeq (tDrop (tVeI X.K (tCons (tVar 0) (tCons (L2.tC (.str m)) tNil)))) (tOst X.K f (tVar 0) (tVar 1)) En (some (.ref a) :: some y :: rest) H := by
  refine ⟨_, rfl, a, C, [.str m], rfl, by simp, hT, ha, ?_⟩
  exact ⟨_, rfl, _, rfl, a, C, rfl, hT, hf, .inl ⟨ha, hq⟩⟩
end
section
variable {X : Cx} {C : Cc}
def sRaiF (x : String) (f : Str) (m : OM) : SM := sb m fun ρ d => some (.ex ⟨x, some (f, d)⟩ ρ)
theorem DS.raiF (k : Cok X C) (hc : X.calm = true) (hps : ∀ pins σ H s e s', L2.Inv X pins σ H s → L2.CX X.prog X.w X.stack H s (fun _ _ _ => False) e s' → X.xe e s') {x : String} {f : Str} {kk : Nat} {e : Expr} {m : OM} {p pos pos2 : Pos} (h : OxX X.prog X.w X.K X.mg X.base (Str.ofString x) f kk) (hr : Room (kk + 1) X.A) (hg : Gl X (Str.ofString x)) (ha : DO X C e m)
    (hdb : (Str.ofString x == ("__debug__" : Str)) = false := by decide) (he : starEach [e] X.env = (false, eval e X.env) :: starEach [] X.env := by rfl) (hpl : (backTo pos2 (starEach [] X.env)).any (·.1) = false := by rfl) :
    DS X C (.Raise (some (.Call (.Name (Str.ofString x) p) [e] [] pos2)) none pos) (sRaiF x f m) := by
  obtain ⟨cl, fI, fd, ps, hm, hT, hf, iC, tI, F1, hb⟩ := h
  refine PS.imp (ps_raise hc k.tk (pmk_oex (dvs := []) hT iC tI F1 hr hb .nil hps hg hm (pa_cons (X := X) ha pa_nil he) hdb he hpl)) fun En σ H q => ?_
  show tO C X.mg m σ H _
  refine st_O q fun ρ F d o s hmm ee w v H1 F1 g1 x1 => ?_
  cases ee
  refine ⟨by simp, fun a ha => ⟨a, cl, v, rfl, hT, hf, upd_same, fun dx hdx hne => ?_⟩⟩
  have hd1 : H1 dx = none := by rw [upd_ne hne] at hdx; exact hdx
  refine ⟨rfl, dx, [(f, v)], upd_same, by rw [upd_ne hne]; exact upd_same, hd1, ?_⟩
  have le : Le H1 (upd (del (upd (upd (upd H1 a (exo a cl none)) dx (exd dx [(f, v)])) a (exo a cl (some dx))) a) dx (.xd [(f, v)])) := fun b u e => by
    have nb : b ≠ dx := by rintro rfl; rw [hd1] at e; cases e
    have na : b ≠ a := by rintro rfl; rw [ha] at e; cases e
    rw [upd_ne nb, del_ne na, upd_ne na, upd_ne nb, upd_ne na]; exact e
  exact w (.ref cl) (some dx) σ _ F1 (g1.kp.trans le.kp) (g1.sr.le le) ⟨hm, dx, v, rfl, upd_same, Rp.mono le.keep (fun _ z => z) _ _ x1⟩
end
end TS
/-! T21: try .. except X as e -/
namespace TS
open PySem PySem.Spec PyProof.Rows L2

theorem SR.reW {C : Cc} {W : WX} {H : Hp} {F : Addr → Prop} {σ : L2.St} {ρ : Regs} (s : SR ⟨C.w, C.K, C.H0, C.F0, W, C.fx⟩ H F σ ρ) : SR C H F σ ρ :=
  ⟨s.len, fun i r e => let ⟨v, h1, h2⟩ := s.at_ i r e; ⟨v, h1, RvAt.re (C := ⟨C.w, C.K, C.H0, C.F0, W, C.fx⟩) rfl rfl (fun ho a ea => (s.own_at ⟨ea ▸ h1, r, e, ho⟩).2.2) h2⟩, s.dist, s.h0, s.f0, s.fnew, s.fdom, s.fx⟩
theorem SR.toW {C : Cc} (W : WX) {H : Hp} {F : Addr → Prop} {σ : L2.St} {ρ : Regs} (s : SR C H F σ ρ) : SR ⟨C.w, C.K, C.H0, C.F0, W, C.fx⟩ H F σ ρ :=
  ⟨s.len, fun i r e => let ⟨v, h1, h2⟩ := s.at_ i r e; ⟨v, h1, RvAt.re (C := C) rfl rfl (fun ho a ea => (s.own_at ⟨ea ▸ h1, r, e, ho⟩).2.2) h2⟩, s.dist, s.h0, s.f0, s.fnew, s.fdom, s.fx⟩
/-- a slot emptied -/
theorem SR.out1 {C : Cc} {H : Hp} {F : Addr → Prop} {σ : L2.St} {ρ : Regs} (i : Nat) (s : SR C H F σ ρ) (hf : C.fx i = none) : SR C H F (σ.set i none) (ρ.set i none) := by
  have own : ∀ {j a}, Own (σ.set i none) (ρ.set i none) j a → Own σ ρ j a := fun {j a} ⟨h1, r, h2, h3⟩ => by
    by_cases hj : j = i
    · subst hj
      rw [List.getElem?_set_self'] at h2
      cases e : ρ[j]? with
      | none => rw [e] at h2; cases h2
      | some u => rw [e] at h2; simp at h2
    · rw [List.getElem?_set_ne (Ne.symm hj)] at h1 h2
      exact ⟨h1, r, h2, h3⟩
  refine ⟨by rw [List.length_set, List.length_set]; exact s.len, fun j r e => ?_, fun j k a o1 o2 => s.dist j k a (own o1) (own o2), s.h0, s.f0, s.fnew, s.fdom, fun j v e => ?_⟩
  · by_cases hj : j = i
    · subst hj
      rw [List.getElem?_set_self'] at e
      cases e2 : ρ[j]? with
      | none => rw [e2] at e; cases e
      | some u => rw [e2] at e; simp at e
    · rw [List.getElem?_set_ne (Ne.symm hj)] at e ⊢
      exact s.at_ j r e
  · by_cases hj : j = i
    · subst hj; rw [hf] at e; cases e
    · rw [List.getElem?_set_ne (Ne.symm hj)]; exact s.fx j v e
def fldOk : Option (Str × D) → Bool
  | none => true
  | some (_, .none) => true
  | some (_, .int _) => true
  | _ => false
/-- the field's value -/
def VD (v : V) (d : D) : Prop := (d = .none ∧ v = .non) ∨ ∃ n : Int, d = .int n ∧ v = .int n
def sTry (i : Nat) (cs : String → Option Bool) (mb : SM) (ms : Exc → SM) : SM := fun ρ => match mb ρ with
  | some (.ex x ρ') => (match cs x.cls with
    | some true => if fldOk x.fld = true ∧ i < ρ'.length then (match ms x (ρ'.set i none) with
      | some (.nx ρ2) => some (.nx (ρ2.set i none))
      | some (.rt rv ρ2) => some (.rt rv ρ2)
      | _ => none) else none
    | some false => some (.ex x ρ')
    | none => none)
  | r => r
/-- what a handler's suite may lean on -/
def SuiOk (C' : Cc) (mg : Str → Option Value) (i : Nat) (x : Exc) (a : Addr) (cls : Value) (d : Option Addr) : Prop :=
  mg (Str.ofString x.cls) = some cls ∧ C'.fx i = some (.ref a) ∧ (∀ j, j ≠ i → C'.fx j = none) ∧ match x.fld with
    | none => d = none
    | some (f, dat) => ∃ dd v, d = some dd ∧ C'.H0 dd = some (.xd [(f, v)]) ∧ VD v dat
section
variable {X : Cx} {C : Cc}
open Classical in
theorem DS.tryAs (k : Cok X C) (hfx : ∀ i, C.fx i = none) {i : Nat} {n y : Str} {cy : Value} {cs : String → Option Bool} {mb : SM} {ms : Exc → SM} {body suite : List Stmt} {b₀ : Stmt} {np pos pos' : Pos} (hs : X.stack = X.env :: X.outer) (hf : X.env.frame = some X.env.locals) (hi : X.N[i]? = some n) (hln : X.env.kindOf n = some .local) (hc : Names X y cy)
    (hcs : ∀ x b cls, cs x = some b → X.mg (Str.ofString x) = some cls → PySem.W.exmOne X.K cls cy = some b)
    (hb : ∀ (W : WX) (pn : List (Addr × Obj)) (xe : Value → Shared → Prop), PassesOwn (model X.prog X.w) X.A X.env xe → Cok (X.tr pn xe) ⟨C.w, C.K, C.H0, C.F0, W, C.fx⟩ → DSs (X.tr pn xe) ⟨C.w, C.K, C.H0, C.F0, W, C.fx⟩ body mb)
    (hsu : ∀ (x : Exc) (a : Addr) (oe : Obj) (cls : Value) (d : Option Addr) (pn : List (Addr × Obj)) (C' : Cc), cs x.cls = some true → Zc cls d oe → (∃ vs, oe.data = .fields vs) → SuiOk C' X.mg i x a cls d → Cok (X.suite a ((a, oe) :: pn)) C' → DSs (X.suite a ((a, oe) :: pn)) C' (b₀ :: suite) (ms x)) :
    DS X C (.Try body [.ExceptHandler (some (.Name y np)) (some n) (b₀ :: suite) pos'] [] [] pos) (sTry i cs mb ms) := by
  let ts : Addr → Value → Option Addr → L2.TS := fun a cls d D σ H => ∃ (x : Exc) (C' : Cc), cs x.cls = some true ∧ SuiOk C' X.mg i x a cls d ∧ C'.K = C.K ∧ C'.w = C.w ∧ C'.W = noW ∧ tSt C' X.mg (ms x) D σ H
  refine PS.imp (ps_try_as (ts := ts) (tb := fun W => tSt ⟨C.w, C.K, C.H0, C.F0, W, C.fx⟩ X.mg mb) hs hf k.nd hi hln hc k.tk
    (fun W pn xe tk hp => hb W pn xe hp ⟨k.K, k.w, k.nd, k.un, tk⟩)
    (fun a oe cls d pn hz hv => ⟨fun pins s' σ H D I ⟨x, C', h1, h2, h3, h4, h5, q⟩ => (hsu x a oe cls d pn C' h1 hz hv h2 ⟨h3.trans k.K, h4.trans k.w, k.nd, k.un, by rw [h5]; exact noW_takes⟩).run pins s' σ H D I q⟩)) fun En σ H q => ?_
  obtain ⟨ρ, F, o, s, e, w⟩ := q
  unfold sTry at e
  cases hm : mb ρ with
  | none => rw [hm] at e; cases e
  | some om =>
    rw [hm] at e
    refine ⟨ρ, F, om, s.toW _, hm, ?_⟩
    cases om with
    | nx ρ' => cases e; exact fun σ' H' F' kp s' => w σ' H' F' kp s'.reW
    | rt rv ρ' => cases e; exact fun v σ' H' F' kp s' ho => w v σ' H' F' kp s'.reW ho
    | bk ρ' => cases e; exact fun σ' H' F' kp s' => w σ' H' F' kp s'.reW
    | ct ρ' => cases e; exact fun σ' H' F' kp s' => w σ' H' F' kp s'.reW
    | ex x ρ' =>
      simp only at e
      intro cls d σ' H' F' kp s' ho
      have s1 : SR C H' F' σ' ρ' := s'.reW
      obtain ⟨hcls, hfld⟩ := ho
      cases hcx : cs x.cls with
      | none => rw [hcx] at e; cases e
      | some b =>
        rw [hcx] at e
        refine ⟨b, hcs _ _ _ hcx hcls, fun hb a ha => ?_, fun hb => ?_⟩
        · subst hb
          simp only at e
          split at e
          case isFalse => cases e
          rename_i hok
          have hni : (ρ'.set i none)[i]? = some none := by rw [List.getElem?_set_self hok.2]
          have s2 : SR C H' F' (σ'.set i (some (.ref a))) (ρ'.set i none) := (s1.forget i).setNone hni (hfx i)
          have hsi : (σ'.set i (some (V.ref a)))[i]? = some (some (.ref a)) := by rw [List.getElem?_set_self (by rw [← s1.len]; exact hok.2)]
          have s3 := s2.blkF hsi
          refine ⟨x, blkF C H' F' (σ'.set i (some (.ref a))) (ρ'.set i none) i (.ref a), hcx, ⟨hcls, if_pos rfl, fun j hj => if_neg hj, ?_⟩, rfl, rfl, rfl, ?_⟩
          · cases hx : x.fld with
            | none => rw [hx] at hfld; exact hfld
            | some fd =>
              obtain ⟨f, dat⟩ := fd
              rw [hx] at hfld hok
              obtain ⟨dd, v, e1, e2, e3⟩ := hfld
              refine ⟨dd, v, e1, ?_, ?_⟩
              · show (if ∃ j, Own (σ'.set i (some (.ref a))) (ρ'.set i none) j dd then none else H' dd) = _
                rw [if_neg, e2]
                rintro ⟨j, o1, r, o2, o3⟩
                obtain ⟨u, q1, q2⟩ := s2.at_ j r o2
                rw [o1] at q1; cases q1
                cases r with
                | val _ => cases o3
                | ownL ds => obtain ⟨c, xs, ec, q3, _⟩ := q2; cases ec; rw [e2] at q3; cases q3
                | ownD ds => obtain ⟨c, es, ep, ec, q3, _⟩ := q2; cases ec; rw [e2] at q3; cases q3
              · cases dat with
                | none => cases e3; exact .inl ⟨rfl, rfl⟩
                | int n => cases e3; exact .inr ⟨n, rfl, rfl⟩
                | _ => simp [fldOk] at hok
          · cases hms : ms x (ρ'.set i none) with
            | none => rw [hms] at e; cases e
            | some om =>
              rw [hms] at e
              refine ⟨ρ'.set i none, F', om, s3, hms, ?_⟩
              cases om with
              | nx ρ2 =>
                cases e
                exact fun σ3 H3 F3 kp3 s4 => w (σ3.set i none) H3 F3 (kp.trans kp3) ((s2.backF hfx s4).out1 i (hfx i))
              | rt rv ρ2 =>
                cases e
                refine fun v σ3 H3 F3 kp3 s4 ho => w v σ3 H3 F3 (kp.trans kp3) (s2.backF hfx s4) ?_
                have h0 : ∀ a', (if ∃ j, Own (σ'.set i (some (.ref a))) (ρ'.set i none) j a' then none else H' a') = none → C.H0 a' = none := fun a' q => by
                  split at q
                  · rename_i ww
                    obtain ⟨j, o⟩ := ww
                    exact (s2.own_at o).2.2
                  · exact s2.fresh0 q
                cases rv with
                | val d => exact ho
                | ownL ds => obtain ⟨c, xs, z1, z2, z3⟩ := ho; exact ⟨c, xs, z1, h0 c z2, z3⟩
                | ownD ds => obtain ⟨c, es, ep, z1, z2, z3⟩ := ho; exact ⟨c, es, ep, z1, h0 c z2, z3⟩
              | ex _ _ => cases e
              | bk _ => cases e
              | ct _ => cases e
        · subst hb
          simp only at e
          cases e
          exact w cls d σ' H' F' kp s1 ⟨hcls, hfld⟩
end
end TS
/-! T22: isinstance(e, X), e.f in an except suite -/
namespace PySem.W
open PySem PySem.Spec PySem.Calls PyProof.Rows
section
variable {prog : Program} {w : World} {A : Around} {E : Value → Shared → Prop} {s : Shared} {K : Frag} {x D : Addr} {ox : Obj} {od : Option Obj}
theorem tsb_classE {Q : Option Value → Shared → Prop} (c : L2.ExcC K D) (X : K.In s.heap) (I : InstAt s.heap x ox D od) (h : Q (some (.ref D)) { s with toks := s.toks + 1 }) : wpAny (model prog w) A (getAttr? (.ref x) "__class__") Q E s := by
  obtain ⟨hga, hgt, hsub, hdct, ha, hn, htk, hm⟩ := c
  have hcl : (clsIn K D).isSome = true := by obtain ⟨cd, hc, _⟩ := any_some hdct; rw [hc]; rfl
  have hf : findObj K D od "__class__" = some (.bind (.builtin "getset_descriptor.__get__") (.builtin "object.__class__")) := by
    cases od with
    | none => exact findObj_dataN hcl ha hn htk
    | some o => exact findObj_data hcl ha hn htk
  obtain ⟨hp, g, d, t, os⟩ := s
  have L0 := I.type (M := model prog w)
  have L1 := looks_findIn (M := model prog w) X hga
  have L2 := looks_findIn (M := model prog w) X hgt
  have L3 := looks_find (M := model prog w) X I hf
  have sub : Looks (model prog w) hp (isInstance (.ref x) (.type "BaseException")) true := L0.andThen (looks_subIn X hsub)
  have hx2 : (Value.builtin "BaseException.__getattribute__" == Value.builtin "object.__getattribute__") = false := by decide +kernel
  have hx1 : (onTheHeap (Value.ref D) && Value.builtin "BaseException.__getattribute__" == Value.builtin "object.__getattribute__") = false := by rw [hx2]; rfl
  unfold getAttr? getAttrBy? getAttrBy
  refine wpAny_bind (wpAny_mkText (wpAny_bind (wpAny_attempt (wpAny_holding (wpAny_bind (L0.at (wpAny_bind (L1.at ?_))))))))
  show wpAny _ _ (if (onTheHeap (Value.ref D) && Value.builtin "BaseException.__getattribute__" == Value.builtin "object.__getattribute__") = true then _ else _) _ _ _
  rw [hx1, if_neg Bool.false_ne_true]
  unfold getAttrByItsOwn hookBefore
  refine wpAny_bind ?_
  rw [if_pos (show onTheHeap (Value.ref D) = true from rfl)]
  refine L2.at ?_
  refine wpAny_bind (wpAny_attempt (wpAny_holding ?_))
  unfold callGetattribute
  rw [show (false && onTheHeap (Value.builtin "BaseException.__getattribute__")) = false from rfl, if_neg Bool.false_ne_true]
  unfold boundAndCalled
  rw [PySem.F.excAttr_ValueError.ga.bind (.ref x)]
  refine wpAny_bind (wpAny_pure ?_)
  show wpAny _ _ (call (.builtin "BaseException.__getattribute__") [.ref x, .str "__class__" t]) _ _ _
  refine wpAny_call (codeAny_call_builtin PySem.F.excAttr_ValueError.ga.plain PySem.F.entry_bexc_ga ?_)
  refine @check_slot (model prog w) _ _ ⟨hp, g, d, t + 1, os⟩ "BaseException.__getattribute__" "BaseException" "__getattribute__" (.ref x) [.str "__class__" t] [] _ (by decide +kernel) (by decide +kernel) sub (PySem.F.args_bexc_ga (.ref x) (.str "__class__" t)) ?_
  unfold Builtin.«object.__getattribute__»
  refine wpAny_bind (wpAny_of_eq (a := ((Value.ref x : Value), [Value.str "__class__" t])) (by first | rfl | (simp only [slotArgs]; rfl)) ?_)
  refine wpAny_bind (wpAny_pure (wpAny_bind (L0.at (wpAny_bind (L3.at ?_)))))
  show wpAny _ _ (holding [Value.builtin "object.__class__"] (call (.builtin "getset_descriptor.__get__") [.builtin "object.__class__", .ref x, .ref D]) >>= ret) _ _ _
  refine wpAny_bind (wpAny_holding (wpAny_call (class_get (s := ⟨hp, g, d, t + 1, os⟩) (ox := ox) (od := od) X I hm ?_)))
  refine wpAny_pure ?_
  show wpAny _ _ (handedOut (.ref D)) _ _ _
  rw [handedOut_of (v := .ref D) rfl]
  first
    | exact wpAny_pure (wpAny_pure h)
    | exact wpAny_pure h
    | exact wpAny_pure (wpAny_bind (wpAny_pure (wpAny_pure h)))
theorem tsb_kitx (c : L2.ExcC K D) : KitX K (.ref x) (.ref D) (fun h => InstAt h x ox D od) where
  ty := fun _ _ _ I => I.type
  it := fun _ _ X _ => by
    obtain ⟨cdD, hcD, _⟩ := any_some c.hd
    unfold clsIn at hcD
    split at hcD
    · rename_i c' d' cd' sl' ho
      intro A' Q' E' s' k q
      unfold isType loadHead
      exact wpAny_bind (wpAny_loadPart (k _ _ (X _ _ ho)) (wpAny_pure q))
    · cases hcD
  ne := fun h tp dd its n sl X htp => by
    obtain ⟨cdD, hcD, _⟩ := any_some c.hd
    refine Bool.eq_false_iff.mpr fun q => ?_
    have e : D = tp := Value.ref.inj (beq_iff_eq.mp q)
    subst e
    unfold clsIn at hcD
    split at hcD
    · rename_i c' d' cd' sl' ho
      have z := (X _ _ ho).symm.trans htp
      cases z
    · cases hcD
  ca := fun X I k => tsb_classE c X I k
end
end PySem.W
namespace TS
open PySem PySem.Spec PyProof.Rows L2
def excB (K : Frg) (D : Addr) : Bool := decide (PySem.W.findIn K (.ref D) "__getattribute__" = some (some (.builtin "BaseException.__getattribute__"))) && (decide (PySem.W.findIn K (.ref D) "__getattr__" = some none) && (decide (PySem.W.subIn K (.ref D) (.type "BaseException") = some true) && (PySem.W.hasDictIn K D && (decide (PySem.W.findIn K (.ref D) "__class__" = some (some (.builtin "object.__class__"))) &&
  (decide (PySem.W.specialIn K (.builtin "object.__class__") "__get__" = some (some (.builtin "getset_descriptor.__get__"))) && (decide (PySem.W.takesIn K (.builtin "object.__class__") = some true) && decide (PySem.W.mroIn K D (.type "object") = some true)))))))
theorem excB_ok {K : Frg} {D : Addr} (h : excB K D = true) : ExcC K D := by
  unfold excB at h
  obtain ⟨h1, h⟩ := Bool.and_eq_true_iff.mp h
  obtain ⟨h2, h⟩ := Bool.and_eq_true_iff.mp h
  obtain ⟨h3, h⟩ := Bool.and_eq_true_iff.mp h
  obtain ⟨h4, h⟩ := Bool.and_eq_true_iff.mp h
  obtain ⟨h5, h⟩ := Bool.and_eq_true_iff.mp h
  obtain ⟨h6, h⟩ := Bool.and_eq_true_iff.mp h
  obtain ⟨h7, h8⟩ := Bool.and_eq_true_iff.mp h
  exact ⟨of_decide_eq_true h1, of_decide_eq_true h2, of_decide_eq_true h3, h4, of_decide_eq_true h5, of_decide_eq_true h6, of_decide_eq_true h7, of_decide_eq_true h8⟩
section
variable {X : Cx} {C : Cc} {p p2 p3 pos : Pos} {a D : Addr} {oe : Obj} {pn : List (Addr × Obj)} {cls : Value} {d : Option Addr}
def rIsD (K : PySem.W.Frag) (D a : Addr) (d : Option Addr) : List V → Hp → VK → Prop := fun xs H Q => ∃ (c : V) (cv : Value) (b : Bool), xs = [.ref a, c] ∧ (∀ u, RelV c u → u = cv) ∧ PySem.W.kitOne K (.ref D) cv = some b ∧ (∀ dd, d = some dd → ∃ fs, H dd = some (.xd fs)) ∧ Q (.bl b) H
theorem call_isX (c : ExcC X.K D) (hz : Zc (.ref D) d oe) (hf : ∃ vs, oe.data = .fields vs) : CallR (X.suite a ((a, oe) :: pn)) (.builtin "isinstance") (rIsD X.K D a d) := by
  intro pins s σ H xs us Q I r h
  obtain ⟨cc, cv, b, rfl, hcv, e, hd, q⟩ := h
  cases r with
  | cons rx rr =>
    cases rr with
    | cons rt rr =>
      cases rr
      cases rx
      have ec := hcv _ rt
      subst ec
      obtain ⟨hget, _⟩ := I.pin (a, oe) (List.mem_append.mpr (.inl List.mem_cons_self))
      obtain ⟨vs, hv⟩ := hf
      have J : ∃ od, PySem.W.InstAt s.heap a oe D od := by
        obtain ⟨oc, oda, odt, osl⟩ := oe
        obtain ⟨h1, h2⟩ := hz
        dsimp only at h1 h2 hv
        subst h1 h2 hv
        cases oda with
        | none => exact ⟨none, hget, rfl, rfl, trivial⟩
        | some dd =>
          obtain ⟨fs, hx⟩ := hd dd rfl
          obtain ⟨mA, hns, _⟩ := I.hok dd _ hx
          obtain ⟨od, ho, _⟩ := lookIn_ns hns
          exact ⟨some od, hget, rfl, rfl, ho⟩
      obtain ⟨od, J⟩ := J
      exact PySem.W.kia_one (PySem.W.tsb_kitx c) I.kIn J e (fun z => nomatch z) fun tk => ⟨.bl b, H, I.kept (t' := tk) fun _ _ z => z, rfl, q⟩
theorem DV.isE {i : Nat} {n y : Str} {b : Bool} (hfx : C.fx i = some (.ref a)) (c : ExcC X.K D) (hz : Zc (.ref D) d oe) (hf : ∃ vs, oe.data = .fields vs) (hd : ∀ dd, d = some dd → ∃ fs, C.H0 dd = some (.xd fs)) {cv : Value} {te : TE} {v : V}
    (hN : X.N[i]? = some n) (hv : Vis X.env.scope n) (hdn : (n == ("__debug__" : Str)) = false) (hcd : (n == ("__classdict__" : Str)) = false) (hg : Gl X "isinstance") (hm : X.mg "isinstance" = none)
    (hy : PE (X.suite a ((a, oe) :: pn)) (.Name y p3) (L2.tC v)) (hcv : ∀ u, RelV v u → u = cv) (hk : PySem.W.kitOne X.K (.ref D) cv = some b)
    (he : starEach [.Name n p2, .Name y p3] X.env = (false, eval (.Name n p2) X.env) :: starEach [.Name y p3] X.env) (he2 : starEach [.Name y p3] X.env = (false, eval (.Name y p3) X.env) :: starEach [] X.env) (hpl : (backTo pos (starEach [.Name y p3] X.env)).any (·.1) = false) :
    DV (X.suite a ((a, oe) :: pn)) C (.Call (.Name "isinstance" p) [.Name n p2, .Name y p3] [] pos) (oC (.bool b)) :=
  PE.imp (pe_callB (X := X.suite a ((a, oe) :: pn)) (call_isX c hz hf) hg hm (by decide +kernel) (pa_cons (pe_var (X := X.suite a ((a, oe) :: pn)) hN hv hdn hcd) (pa_cons hy pa_nil he2) he) (by decide) (by decide) he hpl) fun σ H Q ⟨ρ, F, r, s, hm, q⟩ => by
    cases hm
    exact ⟨_, s.fx i _ hfx, v, cv, b, rfl, hcv, hk, fun dd e => let ⟨fs, h⟩ := hd dd e; ⟨fs, s.h0 _ _ h⟩, q (.bl b) H F (.refl s) (.bl b)⟩
/-- e.f -/
theorem DV.fldE {i : Nat} {n f : Str} {dat : TS.D} {v : V} {dd : Addr} {fs : List (Str × V)} (hfx : C.fx i = some (.ref a)) (T : XfC X.K D) (hno : PySem.W.findIn X.K (.ref D) f = some none) (hz : Zc (.ref D) (some dd) oe) (hf : ∃ vs, oe.data = .fields vs) (h0 : C.H0 dd = some (.xd fs)) (hl : fs.lookup f = some v) (hvd : VD v dat)
    (hN : X.N[i]? = some n) (hv : Vis X.env.scope n) (hdn : (n == ("__debug__" : Str)) = false) (hcd : (n == ("__classdict__" : Str)) = false) (hb : attributeBase (.Name n p2) f X.env (eval (.Name n p2) X.env) = eval (.Name n p2) X.env) :
    DV (X.suite a ((a, oe) :: pn)) C (.Attribute (.Name n p2) f pos) (oC dat) :=
  PE.imp (pe_xf T hno hz hf (pe_var (X := X.suite a ((a, oe) :: pn)) hN hv hdn hcd) hb) fun σ H Q ⟨ρ, F, r, s, hm, q⟩ => by
    cases hm
    refine ⟨_, s.fx i _ hfx, rfl, rfl, dd, fs, v, rfl, s.h0 _ _ h0, hl, q v H F (.refl s) ?_⟩
    rcases hvd with ⟨e1, e2⟩ | ⟨n, e1, e2⟩
    · subst e1 e2; exact .non
    · subst e1 e2; exact .int n
end
end TS
/-! T23: Work(sheet).back() of a sheet that nothing was torn of -/
namespace TS
open PySem PySem.Spec PyProof.Rows L2

/-- nobody's, a new instance at x -/
def spWI (w : World) (K : Frg) (fl : FM) : Sp := fun vs H Q _ => ∃ (F : Addr → Prop) (x C dx : Addr) (v : V) (d : D), vs = [.ref x, v] ∧ H x = some (.ins C dx []) ∧ Cls K C ∧ (∀ f ∈ [("sheet" : Str), "gone", "made", "before"], NoAttr K C f) ∧ (∀ a, F a → ∃ o, H a = some o) ∧ Rp w K H F v d ∧ fl [d] = some (.inl (.val .none)) ∧
  ∀ H' fs l, (∀ a o, a ≠ x → H a = some o → H' a = some o) → H' x = some (.ins C dx fs) → fs.lookup ("made" : Str) = some (.ref l) → fs.lookup ("back" : Str) = none → H' l = some (.lst []) → Q .non H'
def spWB (K : Frg) (mg : Str → Option Value) : Sp := fun vs H _ E => ∃ (x C dx l : Addr) (fs : List (Str × V)) (c : Addr), vs = [.ref x] ∧ H x = some (.ins C dx fs) ∧ Cls K C ∧ NoAttr K C "made" ∧ fs.lookup ("made" : Str) = some (.ref l) ∧ H l = some (.lst []) ∧ mg "Nothing" = some (.ref c) ∧ E (.ref c) none H
abbrev CCw (w : World) (K : Frg) (H0 : Hp) (F0 : Addr → Prop) (E : XK) (x : Addr) (v : V) : Cc := ⟨w, K, H0, F0, fun cls d _ H' => E cls d H', fun i => if i = 0 then some (.ref x) else if i = 1 then some v else none⟩
theorem wi_start {w : World} {K : Frg} {N : List Str} {H : Hp} {F : Addr → Prop} {E : XK} {x : Addr} {v : V} {d : D} (hd : ∀ a, F a → ∃ o, H a = some o) (hv : Rp w K H F v d) : SR (CCw w K H F E x v) H F (L2.start N [.ref x, v]) ([none, some (.val d)] ++ List.replicate (N.length - 2) none) := by
  have rest : ∀ {i : Nat} {r : RV}, ([none, some (.val d)] ++ List.replicate (N.length - 2) none : Regs)[i + 2]? = some (some r) → False := fun {i r} e => by
    rw [List.getElem?_append_right (by simp)] at e
    have := List.mem_of_getElem? e
    simp at this
  have no : ∀ {i b}, ¬ Own (L2.start N [.ref x, v]) ([none, some (.val d)] ++ List.replicate (N.length - 2) none) i b := fun {i b} ⟨_, r, e, ho⟩ => by
    match i with
    | 0 => cases e
    | 1 => cases e; cases ho
    | i + 2 => exact (rest e).elim
  refine ⟨by simp [L2.start], fun i r e => ?_, fun i j b o1 o2 => (no o1).elim, Le.refl, fun _ h => h, fun _ h => .inl h, hd, fun i u e => ?_⟩
  · match i with
    | 0 => cases e
    | 1 => cases e; exact ⟨v, rfl, hv⟩
    | i + 2 => exact (rest e).elim
  · have e : (if i = 0 then some (V.ref x) else if i = 1 then some v else none) = some u := e
    match i with
    | 0 => cases e; rfl
    | 1 => cases e; rfl
    | i + 2 => simp at e
/-- the four stores behind look(sheet) -/
def tW4 (K : Frg) : L2.TS := tSeq (sFld K (tVar 0) (tVar 1) "sheet") (tSeq (sFld K (tVar 0) (tTup tNil) "gone") (tSeq (sFld K (tVar 0) (tLst tNil) "made") (sFld K (tVar 0) (tLst tNil) "before")))
theorem putF_len (f : Str) (v : V) : ∀ fs : List (Str × V), (putF f v fs).length ≤ fs.length + 1
  | [] => by simp [putF]
  | (g, x) :: r => by
    unfold putF
    split
    · simp
    · have := putF_len f v r
      simp; omega
theorem w4_ok {w : World} {K : Frg} {H H1 : Hp} {Q : VK} {En : Ends} {σ : L2.St} {x C dx : Addr} {v : V} (hC : Cls K C) (hN : ∀ f ∈ [("sheet" : Str), "gone", "made", "before"], NoAttr K C f) (hle : Le H H1) (hx : H x = some (.ins C dx [])) (s0 : σ[0]? = some (some (.ref x))) (s1 : σ[1]? = some (some v)) (hE : En.nx = fun _ H' => Q .non H')
    (hq : ∀ H' fs l, (∀ a o, a ≠ x → H a = some o → H' a = some o) → H' x = some (.ins C dx fs) → fs.lookup ("made" : Str) = some (.ref l) → fs.lookup ("back" : Str) = none → H' l = some (.lst []) → Q .non H') : tW4 K En σ H1 := by
  have hx1 := hle _ _ hx
  refine ⟨_, s1, _, s0, x, C, dx, [], rfl, hx1, hC, hN _ (by simp), by simp, ?_⟩
  refine ⟨by simp [sizeLine_eq], fun p hp => ?_⟩
  have npx : x ≠ p := by rintro rfl; rw [upd_same] at hp; cases hp
  refine ⟨_, s0, x, C, dx, _, rfl, (by rw [upd_ne npx]; exact upd_same), hC, hN _ (by simp), (by simp [putF]), ?_⟩
  refine ⟨by simp [sizeLine_eq], fun l hl => ?_⟩
  have nlx : x ≠ l := by rintro rfl; rw [upd_same] at hl; cases hl
  refine ⟨_, s0, x, C, dx, _, rfl, (by rw [upd_ne nlx]; exact upd_same), hC, hN _ (by simp), (by have := putF_len "gone" (.ref p) (putF "sheet" v []); have := putF_len "sheet" v []; simp at *; omega), ?_⟩
  refine ⟨by simp [sizeLine_eq], fun b hb => ?_⟩
  have nbx : x ≠ b := by rintro rfl; rw [upd_same] at hb; cases hb
  refine ⟨_, s0, x, C, dx, _, rfl, (by rw [upd_ne nbx]; exact upd_same), hC, hN _ (by simp), (by have := putF_len "made" (.ref l) (putF "gone" (.ref p) (putF "sheet" v [])); have := putF_len "gone" (.ref p) (putF "sheet" v []); have := putF_len "sheet" v []; simp at *; omega), ?_⟩
  rw [hE]
  have nlx := Ne.symm nlx
  have npx := Ne.symm npx
  have nbx := Ne.symm nbx
  have nlb : l ≠ b := by
    rintro rfl
    rw [upd_ne nlx, upd_same] at hb; cases hb
  refine hq _ _ l (fun a o ne e => ?_) upd_same ?_ ?_ ?_
  · have e1 := hle _ _ e
    have nep : a ≠ p := by rintro rfl; rw [upd_ne ne] at hp; rw [e1] at hp; cases hp
    have nel : a ≠ l := by rintro rfl; rw [upd_ne ne, upd_ne nep, upd_ne ne] at hl; rw [e1] at hl; cases hl
    have neb : a ≠ b := by rintro rfl; rw [upd_ne ne, upd_ne nel, upd_ne ne, upd_ne nep, upd_ne ne] at hb; rw [e1] at hb; cases hb
    rw [upd_ne ne, upd_ne neb, upd_ne ne, upd_ne nel, upd_ne ne, upd_ne nep, upd_ne ne]; exact e1
  · rw [lookup_putF, if_neg (by decide), lookup_putF, if_pos rfl]
  · rw [lookup_putF, if_neg (by decide), lookup_putF, if_neg (by decide), lookup_putF, if_neg (by decide), lookup_putF, if_neg (by decide)]; rfl
  · rw [upd_ne nlx, upd_ne nlb, upd_ne nlx, upd_same]
section
variable {P : Program} {w : World} {K : PySem.W.Frag} {mg : Str → Option Value} {base : Heap} {params : Arguments} {body : List Stmt} {scope : Scope} {fI : Addr} {fd : FuncData} {N : List Str} {k : Nat} {fl : FM}
/-- Work's __init__: st1 is look(sheet) -/
theorem wi_body {X : Cx} {m : SM} {st1 : Stmt} {rest : List Stmt} {E : XK} {H : Hp} {Q : VK} {vs : List V} (h : spWI X.w X.K fl vs H Q E) (hN : X.N.length ≥ 2)
    (h1 : ∀ F0 x v, DS X (CCw X.w X.K H F0 E x v) st1 m) (hm : ∀ d, fl [d] = some (.inl (.val .none)) → ∃ ρ', m ([none, some (.val d)] ++ List.replicate (X.N.length - 2) none) = some (.nx ρ')) (h4 : PSs X rest (tW4 X.K)) :
    ∃ t, PSs X (st1 :: rest) t ∧ t { nx := fun _ H' => Q .non H', rt := Q } (L2.start X.N vs) H := by
  obtain ⟨F, x, C, dx, v, d, rfl, hx, hC, hNo, hd, hv, hf, hq⟩ := h
  obtain ⟨ρ', e⟩ := hm d hf
  refine ⟨_, pss_cons (h1 F x v) h4, ?_⟩
  refine ⟨_, F, _, wi_start hd hv, e, fun σ' H' F' kp s' => ?_⟩
  exact w4_ok (w := X.w) hC hNo (fun a o e => s'.h0 a o e) hx (s'.fx 0 _ rfl) (s'.fx 1 _ rfl) rfl hq
end
theorem wb_body {X : Cx} {c : Expr} {st : Stmt} {pos p1 p2 p3 p4 pr : Pos} {rest : List Stmt} {m : Str} {j : Nat} {E : XK} {H : Hp} {Q : VK} {vs : List V} (h : spWB X.K X.mg vs H Q E) (hc : X.calm = true) (tk : Takes X fun cls d _ H' => E cls d H') (hx : ExC X.K X.mg "Nothing") (hg : Gl X "Nothing")
    {tA : TT} (hA : PT X c tA) (htA : tA = fun σ H Q => tFld X.K (tVar 0) "made" σ H fun x H' => ∃ k, TruV X.K x H' k ∧ Q k H') :
    ∃ t, PSs X (.If (.UnaryOp .Not c p1) [.Raise (some (.Call (.Name "Nothing" p2) [.Constant (.str m) j p3] [] p4)) none pr] [] pos :: rest) t ∧ t { nx := fun _ H' => Q .non H', rt := Q } (L2.start X.N vs) H := by
  obtain ⟨x, C, dx, l, fs, cn, rfl, hx1, hC, hNo, hlk, hl, hcn, hE⟩ := h
  obtain ⟨cl, h1, h2, h3, h4, h5⟩ := hx.ex
  refine ⟨_, pss_cons (ps_if (pt_not hA) (pss_one (ps_raise hc tk (pmk_own (F := F.excBase_ValueError) h2 h1 h3 (raises_own h4 h5) hg))) pss_nil) pss_never, ?_⟩
  subst htA
  refine ⟨_, rfl, x, C, dx, fs, .ref l, rfl, hx1, hC, hNo, hlk, false, .inl ⟨[], .inl (.inl hl), rfl⟩, ?_⟩
  have e : cl = cn := by
    have h1 : X.mg ("Nothing" : Str) = some (.ref cl) := h1
    rw [hcn] at h1; cases h1; rfl
  subst e
  exact hE
section
variable {X : Cx} {C : Cc} {p p2 pos pos2 apos : Pos}
/-- Work(s).back() -/
def eWork (i : Nat) (fl : FM) : EM := fun ρ => match ρ[i]? with
  | some (some (.val d)) => (match fl [d] with
    | some (.inl (.val .none)) => some (.inr ⟨"Nothing", none⟩)
    | _ => none)
  | _ => none
structure WkX (P : Program) (w : World) (K : Frg) (mg : Str → Option Value) (base : Heap) (fl : FM) (k : Nat) : Prop where
  ex : ∃ cw fI fdI psI fB fdB psB, mg "Work" = some (.ref cw) ∧ Mk K cw fI ∧ Cls K cw ∧ (∀ f ∈ [("sheet" : Str), "gone", "made", "before"], NoAttr K cw f) ∧ FnOk P w K mg base (L2.CX P w) k fI fdI psI (spWI w K fl) ∧ Binds K fdI psI [] ∧
    Meth K cw "back" fB ∧ FnOk P w K mg base (L2.CX P w) k fB fdB psB (spWB K mg) ∧ Binds K fdB psB [] ∧ ∃ c, mg "Nothing" = some (.ref c)
theorem DE.work (k : Cok X C) {E : XK} (hW : C.W = fun cls d _ H' => E cls d H') {fl : FM} {kk i : Nat} {x : Str} {pl : Sem Bool} (h : WkX X.prog X.w X.K X.mg X.base fl kk) (hr : Room (kk + 1) X.A) (hg : Gl X "Work") (hN : X.N[i]? = some x) (hv : Vis X.env.scope x) (hd : (x == ("__debug__" : Str)) = false) (hcd : (x == ("__classdict__" : Str)) = false)
    (he : starEach [.Name x p2] X.env = (false, eval (.Name x p2) X.env) :: starEach [] X.env := by rfl) (hpl : (backTo pos2 (starEach [] X.env)).any (·.1) = false := by rfl)
    (ht : eval (.Call (.Attribute (.Call (.Name "Work" p) [.Name x p2] [] pos2) "back" apos) [] [] pos) X.env = (do
      let ov ← eval (.Call (.Name "Work" p) [.Name x p2] [] pos2) X.env
      standAt apos.atName
      let (f, first) ← holding [ov] (getMethod ov "back" pl)
      callWith pos f first (backTo pos (starEach [] X.env)) (backToKw pos (keywordEach [] X.env))) := by rfl) :
    DE X C (.Call (.Attribute (.Call (.Name "Work" p) [.Name x p2] [] pos2) "back" apos) [] [] pos) (eWork i fl) := by
  obtain ⟨cw, fI, fdI, psI, fB, fdB, psB, hm, M, hC, hNo, FI, bI, MB, FB, bB, c, hc⟩ := h.ex
  have hx : Passes (L2.CX X.prog X.w) X E := fun pins σ H s e s' I q => by
    have := passAt k.tk σ pins H s e s' I
    rw [hW] at this
    exact this q
  refine PE.imp (pe_meth0 (pl := pl) (dvs := []) (pe_make (dvs := []) M FI hr hg hm bI .nil hx (pa_cons (pe_var hN hv hd hcd) pa_nil he) (by decide) he hpl) hC MB FB (hr.mono (Nat.le_succ _)) bB .nil hx ht) fun σ H Q q => ?_
  obtain ⟨ρ, F, r, s, e, q⟩ := q
  unfold eWork at e
  split at e
  case h_2 => cases e
  rename_i d er
  split at e
  case h_2 => cases e
  rename_i hf
  cases e
  obtain ⟨v, ev, hvd⟩ := s.at_ i _ er
  refine ⟨v, ev, fun x dx hx0 hdx hne => ?_⟩
  have le : Le H (upd (upd H dx (.own x)) x (.ins cw dx [])) := fun a o e => by
    have na : a ≠ x := by rintro rfl; rw [hx0] at e; cases e
    have nd : a ≠ dx := by rintro rfl; rw [hdx] at e; cases e
    rw [upd_ne na, upd_ne nd]; exact e
  refine ⟨F, x, cw, dx, v, d, rfl, upd_same, hC, hNo, fun a h => (let ⟨o, e⟩ := s.fdom a h; ⟨o, le _ _ e⟩), k.w ▸ k.K ▸ Rp.mono le.keep (fun _ z => z) _ _ hvd, hf, fun H' fs l h1 h2 h3 h4 h5 => ⟨rfl, x, dx, fs, rfl, h2, h4, ?_⟩⟩
  refine ⟨x, cw, dx, l, fs, c, rfl, h2, hC, hNo _ (by simp), h3, h5, hc, ?_⟩
  have le2 : Le H H' := fun a o e => h1 a o (by rintro rfl; rw [hx0] at e; cases e) (le a o e)
  have := q (.ref c) none H' F ⟨le2, fun _ z => z, s.le le2, s⟩ ⟨hc, rfl⟩
  rw [hW] at this
  exact this
end
end TS
/-! T24: what a law's handler reads of an exception -/
namespace TS
open PySem PySem.Spec PyProof.Rows L2
def xkB (K : Frg) (names : List String) : Bool := (names.all fun x => excB K (He.ga K (Str.ofString x)) && (decide (PySem.W.kitOne K (.ref (He.ga K (Str.ofString x))) (.type "ValueError") = some true) && (decide (PySem.W.kitOne K (.ref (He.ga K (Str.ofString x))) (.ref (He.ga K "TornError")) = some true) &&
  (decide (PySem.W.exmOne K (.ref (He.ga K (Str.ofString x))) (.ref (He.ga K "TornError")) = some true) && names.all fun y => decide (PySem.W.kitOne K (.ref (He.ga K (Str.ofString x))) (.ref (He.ga K (Str.ofString y))) = some (x == y))))))
structure Xk (K : Frg) (mg : Str → Option Value) (names : List String) : Prop where
  tor : mg "TornError" = some (.ref (He.ga K "TornError"))
  glo : ∀ x ∈ names, mg (Str.ofString x) = some (.ref (He.ga K (Str.ofString x)))
  chk : xkB K names = true
section
variable {K : Frg} {mg : Str → Option Value} {names : List String}
theorem Xk.at_ (h : Xk K mg names) {x : String} (hx : x ∈ names) : ExcC K (He.ga K (Str.ofString x)) ∧ PySem.W.kitOne K (.ref (He.ga K (Str.ofString x))) (.type "ValueError") = some true ∧ PySem.W.kitOne K (.ref (He.ga K (Str.ofString x))) (.ref (He.ga K "TornError")) = some true ∧
    PySem.W.exmOne K (.ref (He.ga K (Str.ofString x))) (.ref (He.ga K "TornError")) = some true ∧ ∀ y ∈ names, PySem.W.kitOne K (.ref (He.ga K (Str.ofString x))) (.ref (He.ga K (Str.ofString y))) = some (x == y) := by
  have := List.all_eq_true.mp h.chk x hx
  obtain ⟨h1, this⟩ := Bool.and_eq_true_iff.mp this
  obtain ⟨h2, this⟩ := Bool.and_eq_true_iff.mp this
  obtain ⟨h3, this⟩ := Bool.and_eq_true_iff.mp this
  obtain ⟨h4, h5⟩ := Bool.and_eq_true_iff.mp this
  exact ⟨excB_ok h1, of_decide_eq_true h2, of_decide_eq_true h3, of_decide_eq_true h4, fun y hy => of_decide_eq_true (List.all_eq_true.mp h5 y hy)⟩
def csOf (names : List String) (x : String) : Option Bool := if x ∈ names then some true else none
theorem csOf_some {x : String} {b : Bool} (h : csOf names x = some b) : x ∈ names ∧ b = true := by
  unfold csOf at h
  split at h
  · cases h; exact ⟨by assumption, rfl⟩
  · cases h
theorem Xk.exm (h : Xk K mg names) {x : String} {b : Bool} {cls : Value} (hc : csOf names x = some b) (hm : mg (Str.ofString x) = some cls) : PySem.W.exmOne K cls (.ref (He.ga K "TornError")) = some b := by
  obtain ⟨hx, rfl⟩ := csOf_some hc
  rw [h.glo x hx] at hm; cases hm
  exact (h.at_ hx).2.2.2.1
theorem DV.nev {X : Cx} {C : Cc} {e : Expr} : DV X C e (fun _ => none) := ⟨fun pins s σ H Q I ⟨ρ, F, r, _, e, _⟩ => by cases e⟩
end
section
variable {X : Cx} {C : Cc} {names : List String} {x : Exc} {i : Nat} {a : Addr} {oe : Obj} {cls : Value} {d : Option Addr} {pn : List (Addr × Obj)} {n : Str} {p p2 p3 pos : Pos}
theorem SuiOk.xd (s : SuiOk C X.mg i x a cls d) : ∀ dd, d = some dd → ∃ fs, C.H0 dd = some (.xd fs) := fun dd e => by
  obtain ⟨_, _, _, h⟩ := s
  split at h
  · rw [h] at e; cases e
  · obtain ⟨d2, v, e2, h2, _⟩ := h
    rw [e2] at e; cases e
    exact ⟨_, h2⟩
/-- isinstance(e, Y), Y one of them -/
theorem isX (y : String) (h : Xk X.K X.mg names) (hx : x.cls ∈ names) (hy : y ∈ names) (su : SuiOk C X.mg i x a cls d) (hz : Zc cls d oe) (hf : ∃ vs, oe.data = .fields vs) (hm : X.mg "isinstance" = none) (hN : X.N[i]? = some n := by rfl) (hv : Vis X.env.scope n := by first | exact .inl rfl | exact .inr (.inl rfl) | exact .inr (.inr rfl)) (hdn : (n == ("__debug__" : Str)) = false := by decide) (hcd : (n == ("__classdict__" : Str)) = false := by decide) (hg : Gl X "isinstance" := by rfl) (hg2 : Gl X (Str.ofString y) := by rfl) (hdy : (Str.ofString y == ("__debug__" : Str)) = false := by decide)
    (he : starEach [.Name n p2, .Name (Str.ofString y) p3] X.env = (false, eval (.Name n p2) X.env) :: starEach [.Name (Str.ofString y) p3] X.env := by rfl) (he2 : starEach [.Name (Str.ofString y) p3] X.env = (false, eval (.Name (Str.ofString y) p3) X.env) :: starEach [] X.env := by rfl) (hpl : (backTo pos (starEach [.Name (Str.ofString y) p3] X.env)).any (·.1) = false := by rfl) :
    DV (X.suite a ((a, oe) :: pn)) C (.Call (.Name "isinstance" p) [.Name n p2, .Name (Str.ofString y) p3] [] pos) (oC (.bool (x.cls == y))) := by
  obtain ⟨q1, q2, q3, q4, q5⟩ := h.at_ hx
  have hc := su.1
  rw [h.glo _ hx] at hc; cases hc
  exact DV.isE (te := L2.tC (.ref (He.ga X.K (Str.ofString y)))) su.2.1 q1 hz hf su.xd hN hv hdn hcd hg hm (pe_glob (v := .ref (He.ga X.K (Str.ofString y))) hg2 (h.glo _ hy) rfl hdy) (fun u r => r) (q5 y hy) he he2 hpl
theorem isT (h : Xk X.K X.mg names) (hx : x.cls ∈ names) (su : SuiOk C X.mg i x a cls d) (hz : Zc cls d oe) (hf : ∃ vs, oe.data = .fields vs) (hm : X.mg "isinstance" = none) (hN : X.N[i]? = some n := by rfl) (hv : Vis X.env.scope n := by first | exact .inl rfl | exact .inr (.inl rfl) | exact .inr (.inr rfl)) (hdn : (n == ("__debug__" : Str)) = false := by decide) (hcd : (n == ("__classdict__" : Str)) = false := by decide) (hg : Gl X "isinstance" := by rfl) (hg2 : Gl X "TornError" := by rfl)
    (he : starEach [.Name n p2, .Name "TornError" p3] X.env = (false, eval (.Name n p2) X.env) :: starEach [.Name "TornError" p3] X.env := by rfl) (he2 : starEach [.Name "TornError" p3] X.env = (false, eval (.Name "TornError" p3) X.env) :: starEach [] X.env := by rfl) (hpl : (backTo pos (starEach [.Name "TornError" p3] X.env)).any (·.1) = false := by rfl) :
    DV (X.suite a ((a, oe) :: pn)) C (.Call (.Name "isinstance" p) [.Name n p2, .Name "TornError" p3] [] pos) (oC (.bool true)) := by
  obtain ⟨q1, q2, q3, q4, q5⟩ := h.at_ hx
  have hc := su.1
  rw [h.glo _ hx] at hc; cases hc
  exact DV.isE (te := L2.tC (.ref (He.ga X.K "TornError"))) su.2.1 q1 hz hf su.xd hN hv hdn hcd hg hm (pe_glob (v := .ref (He.ga X.K "TornError")) hg2 h.tor rfl (by decide)) (fun u r => r) q3 he he2 hpl
theorem isV (h : Xk X.K X.mg names) (hx : x.cls ∈ names) (su : SuiOk C X.mg i x a cls d) (hz : Zc cls d oe) (hf : ∃ vs, oe.data = .fields vs) (hm : X.mg "isinstance" = none) (hm2 : X.mg "ValueError" = none) (hN : X.N[i]? = some n := by rfl) (hv : Vis X.env.scope n := by first | exact .inl rfl | exact .inr (.inl rfl) | exact .inr (.inr rfl)) (hdn : (n == ("__debug__" : Str)) = false := by decide) (hcd : (n == ("__classdict__" : Str)) = false := by decide) (hg : Gl X "isinstance" := by rfl) (hg2 : Gl X "ValueError" := by rfl)
    (he : starEach [.Name n p2, .Name "ValueError" p3] X.env = (false, eval (.Name n p2) X.env) :: starEach [.Name "ValueError" p3] X.env := by rfl) (he2 : starEach [.Name "ValueError" p3] X.env = (false, eval (.Name "ValueError" p3) X.env) :: starEach [] X.env := by rfl) (hpl : (backTo pos (starEach [.Name "ValueError" p3] X.env)).any (·.1) = false := by rfl) :
    DV (X.suite a ((a, oe) :: pn)) C (.Call (.Name "isinstance" p) [.Name n p2, .Name "ValueError" p3] [] pos) (oC (.bool true)) := by
  obtain ⟨q1, q2, q3, q4, q5⟩ := h.at_ hx
  have hc := su.1
  rw [h.glo _ hx] at hc; cases hc
  exact DV.isE (te := L2.tC (.ty "ValueError")) su.2.1 q1 hz hf su.xd hN hv hdn hcd hg hm (pe_bltn (v := .ty "ValueError") hg2 hm2 PyProof.Rows.Boot.«ValueError» rfl (by decide) (by decide)) (fun u r => r) q2 he he2 hpl
/-- e.f, where the class y has it -/
def oFld (x : Exc) (y : String) (f : Str) : OM := fun ρ => if x.cls = y then (match x.fld with
  | some (g, dat) => if g = f then ok dat else none
  | none => none) else none
structure Fx (K : Frg) (y : String) (f : Str) : Prop where
  xf : XfC K (He.ga K (Str.ofString y))
  no : PySem.W.findIn K (.ref (He.ga K (Str.ofString y))) f = some none
theorem flX (y : String) (f : Str) (h : Xk X.K X.mg names) (hx : x.cls ∈ names) (fx : Fx X.K y f) (su : SuiOk C X.mg i x a cls d) (hz : Zc cls d oe) (hf : ∃ vs, oe.data = .fields vs) (hN : X.N[i]? = some n := by rfl) (hv : Vis X.env.scope n := by first | exact .inl rfl | exact .inr (.inl rfl) | exact .inr (.inr rfl)) (hdn : (n == ("__debug__" : Str)) = false := by decide) (hcd : (n == ("__classdict__" : Str)) = false := by decide)
    (hb : attributeBase (.Name n p2) f X.env (eval (.Name n p2) X.env) = eval (.Name n p2) X.env := by rfl) :
    DV (X.suite a ((a, oe) :: pn)) C (.Attribute (.Name n p2) f pos) (oFld x y f) := by
  by_cases hy : x.cls = y
  · have su' := su
    obtain ⟨hc, hfx, _, h3⟩ := su
    rw [h.glo _ hx] at hc; cases hc
    cases hfl : x.fld with
    | none =>
      have : oFld x y f = fun _ => none := by funext ρ; simp [oFld, hfl]
      rw [this]; exact DV.nev
    | some gd =>
      obtain ⟨g, dat⟩ := gd
      by_cases hgf : g = f
      · subst hgf
        rw [hfl] at h3
        obtain ⟨dd, v, e1, e2, e3⟩ := h3
        subst e1
        have : oFld x y g = oC dat := by funext ρ; simp [oFld, hfl, hy, oC]
        rw [this]
        subst hy
        exact DV.fldE hfx fx.xf fx.no hz hf e2 (by simp) e3 hN hv hdn hcd hb
      · have : oFld x y f = fun _ => none := by funext ρ; simp [oFld, hfl, hgf]
        rw [this]; exact DV.nev
  · have : oFld x y f = fun _ => none := by funext ρ; simp [oFld, hy]
    rw [this]; exact DV.nev
theorem passF {X : Cx} : ∀ (pins : List (Addr × Obj)) (σ : L2.St) (H : Hp) (s : Shared) (e : Value) (s' : Shared), L2.Inv X pins σ H s → L2.CX X.prog X.w X.stack H s (fun _ _ _ => False) e s' → X.xe e s' :=
  fun _ _ _ _ _ _ _ ⟨_, _, _, _, _, _, _, _, _, _, _, _, z⟩ => z.elim
end
end TS
/-! T25: {i: v, j: u}.get(x, 'z') -/
namespace TS
open PySem PySem.Spec PyProof.Rows L2
section
variable {X : Cx} {C : Cc}
def oLit (k1 v1 k2 v2 : Int) (i : Nat) (z : Str) : OM := fun ρ => match ρ[i]? with
  | some (some (.val (.int n))) => ok (if n = k1 then .int v1 else if n = k2 then .int v2 else .str z)
  | _ => none
theorem DO.lit (k : Cok X C) {k1 v1 k2 v2 : Int} (h12 : k1 ≠ k2) (i : Nat) {x z : Str} {j1 j2 j3 j4 j5 : Nat} {p1 p2 p3 p4 p5 p6 p7 apos cpos : Pos} (hN : X.N[i]? = some x) (hv : Vis X.env.scope x) (hd : (x == ("__debug__" : Str)) = false) (hcd : (x == ("__classdict__" : Str)) = false)
    (m : M2 X (.Dict [some (.Constant (.int k1) j1 p1), some (.Constant (.int k2) j2 p2)] [.Constant (.int v1) j3 p3, .Constant (.int v2) j4 p4] p5) "get" apos (.Name x p6) (.Constant (.str z) j5 p7) cpos) :
    DO X C (.Call (.Attribute (.Dict [some (.Constant (.int k1) j1 p1), some (.Constant (.int k2) j2 p2)] [.Constant (.int v1) j3 p3, .Constant (.int v2) j4 p4] p5) "get" apos) [.Name x p6, .Constant (.str z) j5 p7] [] cpos) (oLit k1 v1 k2 v2 i z) :=
  PE.imp (pe_dget2 (by have := k.un; omega) (pe_disp (pps_cons pe_int pe_int (pps_cons pe_int pe_int pps_nil)) rfl rfl (by simp) (by simp)) (pe_var hN hv hd hcd) pe_str m) fun σ H Q ⟨ρ, F, r, s, e, q⟩ => by
    have e : oLit k1 v1 k2 v2 i z ρ = some r := e
    unfold oLit at e
    split at e
    · rename_i n er
      cases e
      obtain ⟨v, e1, e2⟩ := s.at_ i _ er
      cases e2
      intro p hp
      refine ⟨upd_same, [(.inl k1, .int v1), (.inl k2, .int v2)], rfl, by simp, p, rfl, .inl ⟨_, .inl upd_same⟩, _, e1, ?_⟩
      have hmk : mergeK [] [((.inl k1 : L2.Key), V.int v1), (.inl k2, .int v2)] = [(.inl k1, .int v1), (.inl k2, .int v2)] := by
        have : ¬ (Sum.inl k1 : L2.Key) = Sum.inl k2 := fun z => h12 (Sum.inl.inj z)
        simp [mergeK, putK, this]
      refine ⟨_, .inl ⟨_, .inl n, .inl upd_same, rfl, rfl⟩, ?_⟩
      rw [hmk]
      have le : Le H (upd (upd H p (.dK [])) p (.dK [(.inl k1, .int v1), (.inl k2, .int v2)])) := fun a o e => by
        have na : a ≠ p := by rintro rfl; rw [hp] at e; cases e
        rw [upd_ne na, upd_ne na]; exact e
      have g : Gr C σ ρ H F _ F := ⟨le, fun _ h => h, s.le le, s⟩
      by_cases h1 : n = k1
      · subst h1
        have : valV [((.inl n : L2.Key), V.int v1), (.inl k2, .int v2)] (.inl n) = some (.int v1) := by simp [valV]
        rw [this]
        exact q _ _ F g (by rw [if_pos rfl]; exact .int v1)
      · have n1 : ¬ (Sum.inl k1 : L2.Key) = Sum.inl n := fun z => h1 (Sum.inl.inj z).symm
        by_cases h2 : n = k2
        · subst h2
          have : valV [((.inl k1 : L2.Key), V.int v1), (.inl n, .int v2)] (.inl n) = some (.int v2) := by simp [valV, n1]
          rw [this]
          exact q _ _ F g (by rw [if_neg h1, if_pos rfl]; exact .int v2)
        · have n2 : ¬ (Sum.inl k2 : L2.Key) = Sum.inl n := fun z => h2 (Sum.inl.inj z).symm
          have : valV [((.inl k1 : L2.Key), V.int v1), (.inl k2, .int v2)] (.inl n) = none := by simp [valV, n1, n2]
          rw [this]
          exact q _ _ F g (by rw [if_neg h1, if_neg h2]; exact .str z)
    · cases e
end
end TS
/-! T26: a head's Hook with a further check; the law at the end -/
namespace TS
open PySem PySem.Spec PyProof.Rows L2
/-- the j-th statement of a class -/
def inCls (s : Stmt) (j : Nat) : Stmt := match s with
  | .ClassDef _ _ _ b _ _ _ _ _ _ _ => b.getD j (.Pass ⟨0, 0, 0, 0⟩)
  | _ => .Pass ⟨0, 0, 0, 0⟩
abbrev AlT : Type := He.AlD × Bool
def obsT (n : Nat) (fa : List He.Fa) (fn : List He.DefD) (chk : Frg → Bool) (g : Addr → Option Obj) : AlT := (He.obsD fa fn (He.frG g (He.asD g n ++ [cStatics])), chk (He.frG g (He.asD g n ++ [cStatics])))
def hookT (n : Nat) (fa : List He.Fa) (fn : List He.DefD) (chk : Frg → Bool) : PySem.W.Hook where
  α := AlT
  obs := fun s => obsT n fa fn chk s.heap.get?
  val := fun _ => (He.valD fn, true)
  says := fun _ h => ∃ K : PySem.W.Frag, K.In h ∧ He.SaysD fa fn K ∧ chk K = true
  of := fun _ _ e => ⟨_, He.frG_in, congrArg Prod.fst e, congrArg Prod.snd e⟩
  keeps := fun _ _ _ ⟨K, hK, c, d⟩ k => ⟨K, PySem.W.Frag.In.keeps hK k, c, d⟩
theorem obsT_eq {n : Nat} {fa : List He.Fa} {fn : List He.DefD} {chk : Frg → Bool} {g : Addr → Option Obj} {s : Shared} (h : ∀ a, g a = s.heap.get? a) : obsT n fa fn chk g = (hookT n fa fn chk).obs s := by
  have e : g = s.heap.get? := funext h
  rw [e] <;> rfl
/-- the law's promise -/
def spLaw (K : Frg) : Sp := fun vs H Q _ => ∃ (a : Addr) (ns : List Int), vs = [.ref a] ∧ ns.length ≤ 63 ∧ SqL K H a (ns.map V.int) ∧ ∀ H', Q (.bl true) H'
theorem ints_rp {w : World} {K : Frg} {H : Hp} {F : Addr → Prop} : ∀ ns : List Int, RpA w K H F (ns.map V.int) (ns.map PyData.int)
  | [] => .nil
  | n :: ns => .cons (.int n) (ints_rp ns)
abbrev CXF : CXT := fun _ _ _ _ _ _ => False
theorem law_imp {P : Program} {w : World} {K : Frg} {mg : Str → Option Value} {base : Heap} {k : Nat} {f : Addr} {fd : FuncData} {ps : List Str} {fm : FM} (F : FnOk P w K mg base (L2.CX P w) k f fd ps (spF w K mg 1 fm)) (h : ∀ ns : List Int, ns.length ≤ 63 → fm [.list (ns.map .int)] = some (.inl (.val (.bool true)))) :
    FnOk P w K mg base CXF k f fd ps (spLaw K) := by
  have G : ∀ vs H Q E, spLaw K vs H Q E → spF w K mg 1 fm vs H Q fun _ _ _ => False := fun vs H Q E ⟨a, ns, ev, hl, hS, hq⟩ => by
    subst ev
    refine ⟨fun a => ∃ o, H a = some o, [.list (ns.map .int)], _, rfl, fun _ h => h, .cons (.lst ?_ (ints_rp ns)) .nil, h ns hl, fun v H' F' g ho => ?_⟩
    · rcases hS with (h | h) | h
      · exact .inl ⟨h, _, h⟩
      · exact .inr (.inl h)
      · exact .inr (.inr h)
    · cases ho
      exact hq H'
  refine ⟨fun vs H Q E hs => F.len _ _ _ _ (G vs H Q E hs), fun A outer s H args us vs Q E hr he hb hv hs => codeAny_mono (F.run A outer s H args us vs Q _ hr he hb hv (G vs H Q E hs)) fun r s' q => ?_⟩
  cases r with
  | error e =>
    obtain ⟨_, _, _, _, _, _, _, _, _, _, _, _, z⟩ := q
    exact z.elim
  | ok fl => cases fl <;> exact q
end TS
/-! T27: max, min, sum, str, a list times a number -/
namespace TS
open PySem PySem.Spec PyProof.Rows L2

theorem RpA.two {w : World} {K : Frg} {H : Hp} {F : Addr → Prop} {vs : List V} {d e : D} (h : RpA w K H F vs [d, e]) : ∃ v u, vs = [v, u] ∧ Rp w K H F v d ∧ Rp w K H F u e := by
  cases h with
  | cons h1 h2 =>
    obtain ⟨u, rfl, h3⟩ := h2.one
    exact ⟨_, u, rfl, h1, h3⟩
def maxF2 : List D → Option RV
  | [.int i, .int j] => some (.val (.int (if j > i then j else i)))
  | _ => none
def minF2 : List D → Option RV
  | [.int i, .int j] => some (.val (.int (if j < i then j else i)))
  | _ => none
def strF1 : List D → Option RV
  | [.int i] => if i.natAbs.log2 < 1920 then some (.val (.str (toString i))) else none
  | _ => none
def intsF : List D → Option (List Int)
  | [] => some []
  | .int i :: ds => (intsF ds).map (i :: ·)
  | _ => none
def maxI (x : Int) (xs : List Int) : Int := xs.foldl (fun a b => if b > a then b else a) x
def minI (x : Int) (xs : List Int) : Int := xs.foldl (fun a b => if b < a then b else a) x
def intsL : D → Option (List Int)
  | .list xs => intsF xs
  | _ => none
def sumF1 : List D → Option RV
  | [d] => (intsL d).map fun ns => .val (.int ns.sum)
  | _ => none
def maxF1 : List D → Option RV
  | [d] => match intsL d with
    | some (n :: ns) => some (.val (.int (maxI n ns)))
    | _ => none
  | _ => none
def minF1 : List D → Option RV
  | [d] => match intsL d with
    | some (n :: ns) => some (.val (.int (minI n ns)))
    | _ => none
  | _ => none
theorem intsF_rp {w : World} {K : Frg} {H : Hp} {F : Addr → Prop} : ∀ {ds : List D} {ns : List Int} {vs : List V}, intsF ds = some ns → RpA w K H F vs ds → vs = ns.map V.int
  | [], _, _, h, r => by cases h; cases r; rfl
  | d :: ds, ns, _, h, r => by
    cases r with
    | cons h1 h2 =>
      cases d <;> simp only [intsF, reduceCtorEq] at h
      rename_i i
      cases hf : intsF ds with
      | none => rw [hf] at h; cases h
      | some ms =>
        rw [hf] at h
        cases h
        rw [intsF_rp hf h2, h1.int_inv]
        rfl
theorem maxI_is : ∀ (xs : List Int) (x : Int), maxI x xs ∈ x :: xs ∧ ∀ y ∈ x :: xs, y ≤ maxI x xs
  | [], x => by simp [maxI]
  | a :: xs, x => by
    obtain ⟨h1, h2⟩ := maxI_is xs (if a > x then a else x)
    have e : maxI x (a :: xs) = maxI (if a > x then a else x) xs := rfl
    rw [e]
    refine ⟨?_, fun y hy => ?_⟩
    · rcases List.mem_cons.mp h1 with h | h
      · rw [h]; split <;> simp
      · simp [h]
    · rcases List.mem_cons.mp hy with rfl | hy
      · refine Int.le_trans ?_ (h2 _ List.mem_cons_self); split <;> omega
      · rcases List.mem_cons.mp hy with rfl | hy
        · refine Int.le_trans ?_ (h2 _ List.mem_cons_self); split <;> omega
        · exact h2 y (List.mem_cons_of_mem _ hy)
theorem minI_is : ∀ (xs : List Int) (x : Int), minI x xs ∈ x :: xs ∧ ∀ y ∈ x :: xs, minI x xs ≤ y
  | [], x => by simp [minI]
  | a :: xs, x => by
    obtain ⟨h1, h2⟩ := minI_is xs (if a < x then a else x)
    have e : minI x (a :: xs) = minI (if a < x then a else x) xs := rfl
    rw [e]
    refine ⟨?_, fun y hy => ?_⟩
    · rcases List.mem_cons.mp h1 with h | h
      · rw [h]; split <;> simp
      · simp [h]
    · rcases List.mem_cons.mp hy with rfl | hy
      · refine Int.le_trans (h2 _ List.mem_cons_self) ?_; split <;> omega
      · rcases List.mem_cons.mp hy with rfl | hy
        · refine Int.le_trans (h2 _ List.mem_cons_self) ?_; split <;> omega
        · exact h2 y (List.mem_cons_of_mem _ hy)
section
variable {X : Cx} {C : Cc} {e a b : Expr} {pos p : Pos} {l : LM}
theorem cr_max2 : CROk C (fun xs H Q => ∃ i j, xs = [.int i, .int j] ∧ Q (.int (if j > i then j else i)) H) maxF2 := by
  intro σ ρ H F vs ds rv Q s hx hf q
  unfold maxF2 at hf
  split at hf
  · cases hf
    obtain ⟨v, u, rfl, h1, h2⟩ := hx.two
    cases h1.int_inv; cases h2.int_inv
    exact ⟨_, _, rfl, q _ H F (.refl s) (.val (.int _))⟩
  · cases hf
theorem cr_min2 : CROk C (fun xs H Q => ∃ i j, xs = [.int i, .int j] ∧ Q (.int (if j < i then j else i)) H) minF2 := by
  intro σ ρ H F vs ds rv Q s hx hf q
  unfold minF2 at hf
  split at hf
  · cases hf
    obtain ⟨v, u, rfl, h1, h2⟩ := hx.two
    cases h1.int_inv; cases h2.int_inv
    exact ⟨_, _, rfl, q _ H F (.refl s) (.val (.int _))⟩
  · cases hf
theorem cr_str1 : CROk C (fun xs H Q => ∃ i : Int, xs = [.int i] ∧ i.natAbs.log2 < 1920 ∧ Q (.str (toString i)) H) strF1 := by
  intro σ ρ H F vs ds rv Q s hx hf q
  unfold strF1 at hf
  split at hf
  · split at hf
    · rename_i hi
      cases hf
      obtain ⟨v, rfl, h1⟩ := hx.one
      cases h1.int_inv
      exact ⟨_, rfl, hi, q _ H F (.refl s) (.val (.str _))⟩
    · cases hf
  · cases hf
theorem ints_sq (hK : C.K = X.K) {H : Hp} {v : V} {d : D} {ns : List Int} (h : Rp C.w C.K H All v d) (hf : intsL d = some ns) : ∃ a, v = .ref a ∧ SqL X.K H a (ns.map V.int) := by
  cases d <;> simp only [intsL, reduceCtorEq] at hf
  cases h with
  | lst h1 h2 => exact ⟨_, rfl, by rw [← intsF_rp hf h2]; exact hK ▸ h1.sq⟩
theorem cr_sum1 (hK : C.K = X.K) : CROk C (rSum X.K) sumF1 := by
  intro σ ρ H F vs ds rv Q s hx hf q
  unfold sumF1 at hf
  split at hf
  · obtain ⟨v, rfl, h1⟩ := hx.one
    rename_i d
    cases hn : intsL d with
    | none => rw [hn] at hf; cases hf
    | some ns =>
      rw [hn] at hf
      cases hf
      obtain ⟨a, rfl, hs⟩ := ints_sq hK h1 hn
      exact ⟨a, ns, rfl, hs, q _ H F (.refl s) (.val (.int _))⟩
  · cases hf
theorem cr_max1 (hK : C.K = X.K) : CROk C (rMax X.K) maxF1 := by
  intro σ ρ H F vs ds rv Q s hx hf q
  unfold maxF1 at hf
  split at hf
  · obtain ⟨v, rfl, h1⟩ := hx.one
    rename_i d
    split at hf
    · rename_i n ns hn
      cases hf
      obtain ⟨a, rfl, hs⟩ := ints_sq hK h1 hn
      refine ⟨a, n :: ns, rfl, hs, by simp, fun m h1 h2 => ?_⟩
      have e : m = maxI n ns := Int.le_antisymm ((maxI_is ns n).2 m h1) (h2 _ (maxI_is ns n).1)
      rw [e]
      exact q _ H F (.refl s) (.val (.int _))
    · cases hf
  · cases hf
theorem cr_min1 (hK : C.K = X.K) : CROk C (rMin X.K) minF1 := by
  intro σ ρ H F vs ds rv Q s hx hf q
  unfold minF1 at hf
  split at hf
  · obtain ⟨v, rfl, h1⟩ := hx.one
    rename_i d
    split at hf
    · rename_i n ns hn
      cases hf
      obtain ⟨a, rfl, hs⟩ := ints_sq hK h1 hn
      refine ⟨a, n :: ns, rfl, hs, by simp, fun m h1 h2 => ?_⟩
      have e : m = minI n ns := Int.le_antisymm (h2 _ (minI_is ns n).1) ((minI_is ns n).2 m h1)
      rw [e]
      exact q _ H F (.refl s) (.val (.int _))
    · cases hf
  · cases hf
theorem bMax2 (k : Cok X C) (hc : X.calm = true) (hm : X.mg "max" = none) (ha : DL X C [a, b] l) (hg : Gl X "max" := by rfl) (he : starEach [a, b] X.env = (false, eval a X.env) :: starEach [b] X.env := by rfl) (hpl : (backTo pos (starEach [b] X.env)).any (·.1) = false := by rfl) : DE X C (.Call (.Name "max" p) [a, b] [] pos) (eL maxF2 l) :=
  DE.callB (call_max2 hc) cr_max2 hg hm (by decide) ha (by decide) (by decide) he hpl
theorem bMin2 (k : Cok X C) (hc : X.calm = true) (hm : X.mg "min" = none) (ha : DL X C [a, b] l) (hg : Gl X "min" := by rfl) (he : starEach [a, b] X.env = (false, eval a X.env) :: starEach [b] X.env := by rfl) (hpl : (backTo pos (starEach [b] X.env)).any (·.1) = false := by rfl) : DE X C (.Call (.Name "min" p) [a, b] [] pos) (eL minF2 l) :=
  DE.callB (call_min2 hc) cr_min2 hg hm (by decide) ha (by decide) (by decide) he hpl
theorem bSum1 (k : Cok X C) (hc : X.calm = true) (hm : X.mg "sum" = none) (ha : DL X C [e] l) (hg : Gl X "sum" := by rfl) (he : starEach [e] X.env = (false, eval e X.env) :: starEach [] X.env := by rfl) (hpl : (backTo pos (starEach [] X.env)).any (·.1) = false := by rfl) : DE X C (.Call (.Name "sum" p) [e] [] pos) (eL sumF1 l) :=
  DE.callB (cr_sum hc) (cr_sum1 k.K) hg hm (by decide) ha (by decide) (by decide) he hpl
theorem bMax1 (k : Cok X C) (hc : X.calm = true) (hm : X.mg "max" = none) (ha : DL X C [e] l) (hg : Gl X "max" := by rfl) (he : starEach [e] X.env = (false, eval e X.env) :: starEach [] X.env := by rfl) (hpl : (backTo pos (starEach [] X.env)).any (·.1) = false := by rfl) : DE X C (.Call (.Name "max" p) [e] [] pos) (eL maxF1 l) :=
  DE.callB (cr_max hc) (cr_max1 k.K) hg hm (by decide) ha (by decide) (by decide) he hpl
theorem bMin1 (k : Cok X C) (hc : X.calm = true) (hm : X.mg "min" = none) (ha : DL X C [e] l) (hg : Gl X "min" := by rfl) (he : starEach [e] X.env = (false, eval e X.env) :: starEach [] X.env := by rfl) (hpl : (backTo pos (starEach [] X.env)).any (·.1) = false := by rfl) : DE X C (.Call (.Name "min" p) [e] [] pos) (eL minF1 l) :=
  DE.callB (cr_min hc) (cr_min1 k.K) hg hm (by decide) ha (by decide) (by decide) he hpl
theorem bStr1 (k : Cok X C) (hm : X.mg "str" = none) (ha : DL X C [e] l) (hg : Gl X "str" := by rfl) (he : starEach [e] X.env = (false, eval e X.env) :: starEach [] X.env := by rfl) (hpl : (backTo pos (starEach [] X.env)).any (·.1) = false := by rfl) : DE X C (.Call (.Name "str" p) [e] [] pos) (eL strF1 l) :=
  DE.callT call_str_int cr_str1 hg hm (by decide) ha (by decide) (by decide) he hpl
end
end TS
/-! T28: try with several handlers, each with a name or without -/
namespace TS
open PySem PySem.Spec PyProof.Rows L2

/-- one clause: its class, its slot, what its suite wishes -/
structure Cl where
  cy : Value
  sl : Option Nat
  ts : Addr → Value → Option Addr → L2.TS
def Cl.inn (c : Cl) (a : Addr) (σ : L2.St) : L2.St := match c.sl with
  | none => σ
  | some i => σ.set i (some (.ref a))
def Cl.out (c : Cl) (σ : L2.St) : L2.St := match c.sl with
  | none => σ
  | some i => σ.set i none
def Cl.ends (c : Cl) (D : Ends) : Ends := ⟨fun σ H => D.nx (c.out σ) H, D.rt, fun σ H => D.bk (c.out σ) H, fun σ H => D.ct (c.out σ) H⟩
/-- what the clauses wish of an exception -/
def wCls (K : Frg) (D : Ends) : List Cl → WX
  | [] => fun _ _ _ _ => False
  | c :: r => fun cls d σ H => ∃ b, PySem.W.exmOne K cls c.cy = some b ∧ (b = true → ∀ a, H a = none → c.ts a cls d (c.ends D) (c.inn a σ) H) ∧ (b = false → wCls K D r cls d σ H)
def SuF (X : Cx) (ts : Addr → Value → Option Addr → L2.TS) (sts : List Stmt) : Prop := ∀ (a : Addr) (oe : Obj) (cls : Value) (d : Option Addr) (pn : List (Addr × Obj)), Zc cls d oe → (∃ vs, oe.data = .fields vs) → PSs (X.suite a ((a, oe) :: pn)) sts (ts a cls d)
inductive ClsOk (X : Cx) : List ExceptHandler → List Cl → Prop
  | nil : ClsOk X [] []
  | bare {y : Str} {cy : Value} {ts : Addr → Value → Option Addr → L2.TS} {b₀ : Stmt} {su : List Stmt} {p1 p2 : Pos} {hs : List ExceptHandler} {l : List Cl} : Names X y cy → SuF X ts (b₀ :: su) → ClsOk X hs l → ClsOk X (.ExceptHandler (some (.Name y p1)) none (b₀ :: su) p2 :: hs) (⟨cy, none, ts⟩ :: l)
  | named {y n : Str} {i : Nat} {cy : Value} {ts : Addr → Value → Option Addr → L2.TS} {b₀ : Stmt} {su : List Stmt} {p1 p2 : Pos} {hs : List ExceptHandler} {l : List Cl} : X.N[i]? = some n → X.env.kindOf n = some .local → Names X y cy → SuF X ts (b₀ :: su) → ClsOk X hs l → ClsOk X (.ExceptHandler (some (.Name y p1)) (some n) (b₀ :: su) p2 :: hs) (⟨cy, some i, ts⟩ :: l)
section
variable {X : Cx}
/-- an exception that has landed -/
structure Ld (X : Cx) (pins : List (Addr × Obj)) (a : Addr) (cls : Value) (d : Option Addr) (σ : L2.St) (H : Hp) (s : Shared) : Prop where
  base : ∃ (B : Heap) (sI : Shared), Inv X pins σ H sI ∧ (∀ b o, sI.heap.get? b = some o → b ∉ frs X.stack → B.get? b = some o) ∧ sI.heap.UpToSlots s.heap ∧ HandSPX.FlyingZ B (X.env :: X.outer) a (Zc cls d) s.heap ∧ s.os = sI.os ∧ AllBare s.gens
  na : H a = none
theorem Ld.inv {pins : List (Addr × Obj)} {a : Addr} {cls : Value} {d : Option Addr} {σ : L2.St} {H : Hp} {s : Shared} (l : Ld X pins a cls d σ H s) (hf : X.env.frame = some X.env.locals) : ∃ oe, s.heap.get? a = some oe ∧ Zc cls d oe ∧ (∃ vs, oe.data = .fields vs) ∧ Inv X pins σ H s ∧ Inv (X.suite a ((a, oe) :: (X.pn ++ pins))) [] σ H s := by
  obtain ⟨⟨B, sI, J, nb, up, fl, os, ag⟩, na⟩ := l
  have J2 : Inv X pins σ H s := J.landed nb fl.1 up os ag
  obtain ⟨oe, vs, g1, g2, g3⟩ := fl.there
  have off : a ∉ frs (X.env :: X.outer) := fun hm => by
    obtain ⟨_, o2, q1, q2⟩ := fl.2.2.1.mem hm
    rw [g1] at q1; cases q1
    exact q2 _ g3
  refine ⟨oe, g1, g2, ⟨vs, g3⟩, J2, J2.suite g1 g3 na (fun z => off (List.mem_filterMap.mpr ⟨X.env, List.mem_cons_self, by rw [hf, z]⟩)) fun hm => ?_⟩
  obtain ⟨en, q1, q2⟩ := List.mem_filterMap.mp hm
  exact off (List.mem_filterMap.mpr ⟨en, List.mem_cons_of_mem _ q1, q2⟩)
theorem Ld.move {pins : List (Addr × Obj)} {a : Addr} {cls : Value} {d : Option Addr} {σ : L2.St} {H : Hp} {s : Shared} (l : Ld X pins a cls d σ H s) {Q : Unit → Shared → Prop} {M : Model} {A : Around} {E : Value → Shared → Prop} (q : ∀ s', Ld X pins a cls d σ H s' → Q () s') : wpAny M A (setFlight (.ref a) none) Q E s := by
  obtain ⟨⟨B, sI, J, nb, up, fl, os, ag⟩, na⟩ := l
  exact HandSPX.lands_againZ fl fun h' f' u' => q _ ⟨⟨B, sI, J, nb, up.trans u', f', os, ag⟩, na⟩
theorem ld_test {pins : List (Addr × Obj)} {a : Addr} {oe : Obj} {σ : L2.St} {H : Hp} {s : Shared} (S : Inv (X.suite a ((a, oe) :: (X.pn ++ pins))) [] σ H s) {y : Str} {cy : Value} {p : Pos} (hc : Names X y cy) {Q : Value → Shared → Prop} {E : Value → Shared → Prop} (q : Q cy s) : wpAny (model X.prog X.w) (X.A.mark (some (.ref a))) (eval (.Name y p) X.env) Q E s := by
  obtain ⟨g1, g2, g3 | ⟨g3, g4, g5⟩⟩ := hc
  · exact ld_glob S g1 g3 q g2
  · exact ld_blt S g1 g3 g4 q g5 g2
theorem tryM_hds (ok : X.Ok) (hf : X.env.frame = some X.env.locals) (hN : X.N.Nodup) {pins : List (Addr × Obj)} {D : Ends} {a : Addr} {cls : Value} {d : Option Addr} {σ : L2.St} {H : Hp} {xe : Value → Shared → Prop} : ∀ {hs : List ExceptHandler} {l : List Cl}, ClsOk X hs l → ∀ {s : Shared}, Ld X pins a cls d σ H s → wCls X.K D l cls d σ H → wpAny (model X.prog X.w) X.A (handleBy (.ref a) X.env hs) (SP X pins D) xe s := by
  intro hs l k
  induction k with
  | nil => intro s L w; exact w.elim
  | @bare y cy ts b₀ su p1 p2 hs l hc hsu r ih =>
    intro s L w
    obtain ⟨b, hb, yes, no⟩ := w
    obtain ⟨oe, g1, g2, g3, J, S⟩ := L.inv hf
    refine wpAny_handleBy_cons (codeAny_handlers_test ?_) (by intro q; cases q)
    have look : PySem.W.Looks (model X.prog X.w) s.heap (typeOf (.ref a)) cls := fun A Q E u kk q => wpAny_typeOf_ref (kk _ _ g1) (g2.1.symm ▸ q)
    refine ld_test S hc ((PySem.W.exm_one (M := model X.prog X.w) J.kIn look hb).here ?_)
    cases b with
    | false => exact ih L (no rfl)
    | true =>
      refine codeAny_handlers_suite (L.move fun s2 L2 => ?_)
      obtain ⟨oe2, e1, e2, e3, J2, S2⟩ := L2.inv hf
      refine wpAny_mono ((hsu a oe2 cls d (X.pn ++ pins) e2 e3).run [] _ _ _ _ S2 (yes rfl a L.na)) (fun f u hsp => ?_) (fun _ _ z => z.elim)
      cases f with
      | next => obtain ⟨σ6, H6, S6, q⟩ := hsp; exact ⟨σ6, H6, S6.unsuite ok, q⟩
      | brk => obtain ⟨σ6, H6, S6, q⟩ := hsp; exact ⟨σ6, H6, S6.unsuite ok, q⟩
      | cont => obtain ⟨σ6, H6, S6, q⟩ := hsp; exact ⟨σ6, H6, S6.unsuite ok, q⟩
      | ret v => obtain ⟨v6, σ6, H6, S6, r6, q⟩ := hsp; exact ⟨v6, σ6, H6, S6.unsuite ok, r6, q⟩
  | @named y n i cy ts b₀ su p1 p2 hs l hi hln hc hsu r ih =>
    intro s L w
    obtain ⟨b, hb, yes, no⟩ := w
    obtain ⟨oe, g1, g2, g3, J, S⟩ := L.inv hf
    refine wpAny_handleBy_cons (codeAny_handlers_test ?_) (by intro q; cases q)
    have look : PySem.W.Looks (model X.prog X.w) s.heap (typeOf (.ref a)) cls := fun A Q E u kk q => wpAny_typeOf_ref (kk _ _ g1) (g2.1.symm ▸ q)
    refine ld_test S hc ((PySem.W.exm_one (M := model X.prog X.w) J.kIn look hb).here ?_)
    cases b with
    | false => exact ih L (no rfl)
    | true =>
      refine codeAny_handlers_suite_as (L.move fun s2 L2 => ?_)
      obtain ⟨oe2, e1, e2, e3, J2, S2⟩ := L2.inv hf
      refine store_ok (X := X.suite a ((a, oe2) :: (X.pn ++ pins))) (v := .ref a) S2 hN hi (.inl hln) rfl (fun s5 S5 => ?_) (.inr hln)
      refine wpAny_mono ((hsu a oe2 cls d (X.pn ++ pins) e2 e3).run [] _ _ _ _ S5 (yes rfl a L.na)) (fun f u hsp => ?_) (fun _ _ z => z.elim)
      cases f with
      | next => obtain ⟨σ6, H6, S6, q⟩ := hsp; exact gone_ok (S6.unsuite ok) hN hi hln fun s7 J7 => ⟨_, _, J7, q⟩
      | brk => obtain ⟨σ6, H6, S6, q⟩ := hsp; exact gone_ok (S6.unsuite ok) hN hi hln fun s7 J7 => ⟨_, _, J7, q⟩
      | cont => obtain ⟨σ6, H6, S6, q⟩ := hsp; exact gone_ok (S6.unsuite ok) hN hi hln fun s7 J7 => ⟨_, _, J7, q⟩
      | ret v => obtain ⟨v6, σ6, H6, S6, r6, q⟩ := hsp; exact gone_ok (S6.unsuite ok) hN hi hln fun s7 J7 => ⟨_, _, _, J7, r6, q⟩
theorem ps_tryM {body : List Stmt} {h₀ : ExceptHandler} {hs : List ExceptHandler} {l : List Cl} {pos : Pos} {tb : WX → L2.TS} (hst : X.stack = X.env :: X.outer) (hf : X.env.frame = some X.env.locals) (hN : X.N.Nodup)
    (hb : ∀ (W : WX) (pn : List (Addr × Obj)) (xe : Value → Shared → Prop), Takes (X.tr pn xe) W → PassesOwn (model X.prog X.w) X.A X.env xe → PSs (X.tr pn xe) body (tb W)) (hh : ClsOk X (h₀ :: hs) l) :
    PS X (.Try body (h₀ :: hs) [] [] pos) (fun D σ H => tb (wCls X.K D l) D σ H) := by
  refine ⟨fun pins s σ H D I h => ?_⟩
  have ok := I.ok
  have frm : X.A.frames = some (X.env :: X.outer) := by rw [ok.frames, hst]
  refine wpAny_Try_except (wpAny_mono ((hb (wCls X.K D l) (X.pn ++ pins) (fun e s1 => wpAny (model X.prog X.w) X.A (noteFrame e X.env) (fun _ s2 => wpAny (model X.prog X.w) X.A (setFlight e none) (fun _ s3 =>
    wpAny (model X.prog X.w) X.A (handleBy e X.env (h₀ :: hs)) (SP X pins D) X.xe s3) X.xe s2) X.xe s1) (fun u s1 xx => ?_) PassesOwn.looking).run [] s σ H D (I.toTry _) h) (fun f s1 hsp => ?_) (fun _ _ z => z))
  · obtain ⟨a, B, sI, pins2, σ2, H2, cls, d, rfl, J2, nb, up, sky, na, os, ag, w⟩ := xx
    have sky2 : Sky B (X.env :: X.outer) a (Zc cls d) X.env.locals s1.heap := hst ▸ sky
    refine Sky.land Zc.steady frm hf sky2 fun h3 fl3 up3 => ?_
    exact tryM_hds ok hf hN hh ⟨⟨B, sI, J2.ofTry ok, nb, up.trans up3, fl3, os, ag⟩, na⟩ w
  · cases f with
    | next => obtain ⟨σ6, H6, S6, q⟩ := hsp; exact wpAny_execs_nil ⟨σ6, H6, S6.ofTry ok, q⟩
    | brk => obtain ⟨σ6, H6, S6, q⟩ := hsp; exact ⟨σ6, H6, S6.ofTry ok, q⟩
    | cont => obtain ⟨σ6, H6, S6, q⟩ := hsp; exact ⟨σ6, H6, S6.ofTry ok, q⟩
    | ret v => obtain ⟨v6, σ6, H6, S6, r6, q⟩ := hsp; exact ⟨v6, σ6, H6, S6.ofTry ok, r6, q⟩
end
end TS
namespace TS
open PySem PySem.Spec PyProof.Rows L2
/-- a clause's meaning -/
structure Hd where
  sl : Option Nat
  cs : String → Option Bool
  ms : Exc → SM
def hdRun (h : Hd) (x : Exc) (ρ : Regs) : Option Out := match h.sl with
  | none => (match h.ms x ρ with
    | some (.nx ρ2) => some (.nx ρ2)
    | some (.rt rv ρ2) => some (.rt rv ρ2)
    | _ => none)
  | some i => if fldOk x.fld = true ∧ i < ρ.length then (match h.ms x (ρ.set i none) with
      | some (.nx ρ2) => some (.nx (ρ2.set i none))
      | some (.rt rv ρ2) => some (.rt rv ρ2)
      | _ => none) else none
def runH : List Hd → Exc → Regs → Option Out
  | [], _, _ => none
  | h :: r, x, ρ => match h.cs x.cls with
    | some true => hdRun h x ρ
    | some false => runH r x ρ
    | none => none
def sTryM (hs : List Hd) (mb : SM) : SM := fun ρ => match mb ρ with
  | some (.ex x ρ') => runH hs x ρ'
  | r => r
section
variable {X : Cx} {C : Cc}
abbrev CN (C : Cc) : Cc := ⟨C.w, C.K, C.H0, C.F0, noW, C.fx⟩
def tsN (X : Cx) (C : Cc) (i : Nat) (cs : String → Option Bool) (ms : Exc → SM) : Addr → Value → Option Addr → L2.TS := fun a cls d D σ H => ∃ (x : Exc) (C' : Cc), cs x.cls = some true ∧ SuiOk C' X.mg i x a cls d ∧ C'.K = C.K ∧ C'.w = C.w ∧ C'.W = noW ∧ tSt C' X.mg (ms x) D σ H
def tsB (X : Cx) (C : Cc) (cs : String → Option Bool) (ms : Exc → SM) : Addr → Value → Option Addr → L2.TS := fun _ _ _ D σ H => ∃ x, cs x.cls = some true ∧ tSt (CN C) X.mg (ms x) D σ H
inductive HdsD (X : Cx) (C : Cc) : List ExceptHandler → List Hd → List Cl → Prop
  | nil : HdsD X C [] [] []
  | bare {y : Str} {cy : Value} {cs : String → Option Bool} {ms : Exc → SM} {b₀ : Stmt} {su : List Stmt} {p1 p2 : Pos} {hs : List ExceptHandler} {hd : List Hd} {l : List Cl} (hc : Names X y cy)
      (hcs : ∀ x b cls, cs x = some b → X.mg (Str.ofString x) = some cls → PySem.W.exmOne X.K cls cy = some b)
      (hsu : ∀ (x : Exc) (a : Addr) (oe : Obj) (cls : Value) (d : Option Addr) (pn : List (Addr × Obj)), cs x.cls = some true → Zc cls d oe → (∃ vs, oe.data = .fields vs) → Cok (X.suite a ((a, oe) :: pn)) (CN C) → DSs (X.suite a ((a, oe) :: pn)) (CN C) (b₀ :: su) (ms x))
      (r : HdsD X C hs hd l) : HdsD X C (.ExceptHandler (some (.Name y p1)) none (b₀ :: su) p2 :: hs) (⟨none, cs, ms⟩ :: hd) (⟨cy, none, tsB X C cs ms⟩ :: l)
  | named {y n : Str} {i : Nat} {cy : Value} {cs : String → Option Bool} {ms : Exc → SM} {b₀ : Stmt} {su : List Stmt} {p1 p2 : Pos} {hs : List ExceptHandler} {hd : List Hd} {l : List Cl} (hi : X.N[i]? = some n) (hln : X.env.kindOf n = some .local) (hc : Names X y cy)
      (hcs : ∀ x b cls, cs x = some b → X.mg (Str.ofString x) = some cls → PySem.W.exmOne X.K cls cy = some b)
      (hsu : ∀ (x : Exc) (a : Addr) (oe : Obj) (cls : Value) (d : Option Addr) (pn : List (Addr × Obj)) (C' : Cc), cs x.cls = some true → Zc cls d oe → (∃ vs, oe.data = .fields vs) → SuiOk C' X.mg i x a cls d → Cok (X.suite a ((a, oe) :: pn)) C' → DSs (X.suite a ((a, oe) :: pn)) C' (b₀ :: su) (ms x))
      (r : HdsD X C hs hd l) : HdsD X C (.ExceptHandler (some (.Name y p1)) (some n) (b₀ :: su) p2 :: hs) (⟨some i, cs, ms⟩ :: hd) (⟨cy, some i, tsN X C i cs ms⟩ :: l)
theorem HdsD.ok (k : Cok X C) : ∀ {hs : List ExceptHandler} {hd : List Hd} {l : List Cl}, HdsD X C hs hd l → ClsOk X hs l := by
  intro hs hd l h
  induction h with
  | nil => exact .nil
  | bare hc hcs hsu r ih =>
    refine .bare hc (fun a oe cls d pn hz hv => ⟨fun pins s' σ H D I ⟨x, h1, q⟩ => ?_⟩) ih
    exact (hsu x a oe cls d pn h1 hz hv ⟨k.K, k.w, k.nd, k.un, noW_takes⟩).run pins s' σ H D I q
  | named hi hln hc hcs hsu r ih =>
    refine .named hi hln hc (fun a oe cls d pn hz hv => ⟨fun pins s' σ H D I ⟨x, C', h1, h2, h3, h4, h5, q⟩ => ?_⟩) ih
    exact (hsu x a oe cls d pn C' h1 hz hv h2 ⟨h3.trans k.K, h4.trans k.w, k.nd, k.un, by rw [h5]; exact noW_takes⟩).run pins s' σ H D I q
open Classical in
theorem HdsD.want (k : Cok X C) (hfx : ∀ i, C.fx i = none) {x : Exc} {ρ : Regs} {o : Out} {D : Ends} {cls : Value} {d : Option Addr} {σ : L2.St} {H : Hp} {F : Addr → Prop} (s1 : SR C H F σ ρ) (hx : XOk C X.mg x cls d H) (w : Wo C X.mg D o H F) : ∀ {hs : List ExceptHandler} {hd : List Hd} {l : List Cl}, HdsD X C hs hd l → runH hd x ρ = some o → wCls X.K D l cls d σ H := by
  intro hs hd l h
  obtain ⟨hcls, hfld⟩ := hx
  induction h with
  | nil => intro e; cases e
  | @bare y cy cs ms b₀ su p1 p2 hs hd l hc hcs hsu r ih =>
    intro e
    rw [runH] at e
    cases hcx : cs x.cls with
    | none => simp only [hcx] at e; cases e
    | some b =>
      simp only [hcx] at e
      refine ⟨b, hcs _ _ _ hcx hcls, fun hb a ha => ?_, fun hb => ?_⟩
      · subst hb
        simp only [hdRun] at e
        refine ⟨x, hcx, ?_⟩
        cases hm : ms x ρ with
        | none => rw [hm] at e; cases e
        | some om =>
          rw [hm] at e
          refine ⟨ρ, F, om, s1.toW _, hm, ?_⟩
          cases om with
          | nx ρ2 => cases e; exact fun σ3 H3 F3 kp3 s4 => w σ3 H3 F3 kp3 s4.reW
          | rt rv ρ2 => cases e; exact fun v σ3 H3 F3 kp3 s4 ho => w v σ3 H3 F3 kp3 s4.reW ho
          | ex _ _ => cases e
          | bk _ => cases e
          | ct _ => cases e
      · subst hb
        exact ih e
  | @named y n i cy cs ms b₀ su p1 p2 hs hd l hi hln hc hcs hsu r ih =>
    intro e
    rw [runH] at e
    cases hcx : cs x.cls with
    | none => simp only [hcx] at e; cases e
    | some b =>
      simp only [hcx] at e
      refine ⟨b, hcs _ _ _ hcx hcls, fun hb a ha => ?_, fun hb => ?_⟩
      · subst hb
        simp only [hdRun] at e
        split at e
        case isFalse => cases e
        rename_i hok
        have hni : (ρ.set i none)[i]? = some none := by rw [List.getElem?_set_self hok.2]
        have s2 : SR C H F (σ.set i (some (.ref a))) (ρ.set i none) := (s1.forget i).setNone hni (hfx i)
        have hsi : (σ.set i (some (V.ref a)))[i]? = some (some (.ref a)) := by rw [List.getElem?_set_self (by rw [← s1.len]; exact hok.2)]
        have s3 := s2.blkF hsi
        refine ⟨x, blkF C H F (σ.set i (some (.ref a))) (ρ.set i none) i (.ref a), hcx, ⟨hcls, if_pos rfl, fun j hj => if_neg hj, ?_⟩, rfl, rfl, rfl, ?_⟩
        · cases hx : x.fld with
          | none => rw [hx] at hfld; exact hfld
          | some fd =>
            obtain ⟨f, dat⟩ := fd
            rw [hx] at hfld hok
            obtain ⟨dd, v, e1, e2, e3⟩ := hfld
            refine ⟨dd, v, e1, ?_, ?_⟩
            · show (if ∃ j, Own (σ.set i (some (.ref a))) (ρ.set i none) j dd then none else H dd) = _
              rw [if_neg, e2]
              rintro ⟨j, o1, r, o2, o3⟩
              obtain ⟨u, q1, q2⟩ := s2.at_ j r o2
              rw [o1] at q1; cases q1
              cases r with
              | val _ => cases o3
              | ownL ds => obtain ⟨c, xs, ec, q3, _⟩ := q2; cases ec; rw [e2] at q3; cases q3
              | ownD ds => obtain ⟨c, es, ep, ec, q3, _⟩ := q2; cases ec; rw [e2] at q3; cases q3
            · cases dat with
              | none => cases e3; exact .inl ⟨rfl, rfl⟩
              | int n => cases e3; exact .inr ⟨n, rfl, rfl⟩
              | _ => simp [fldOk] at hok
        · cases hms : ms x (ρ.set i none) with
          | none => rw [hms] at e; cases e
          | some om =>
            rw [hms] at e
            refine ⟨ρ.set i none, F, om, s3, hms, ?_⟩
            cases om with
            | nx ρ2 =>
              cases e
              exact fun σ3 H3 F3 kp3 s4 => w (σ3.set i none) H3 F3 kp3 ((s2.backF hfx s4).out1 i (hfx i))
            | rt rv ρ2 =>
              cases e
              refine fun v σ3 H3 F3 kp3 s4 ho => w v σ3 H3 F3 kp3 (s2.backF hfx s4) ?_
              have h0 : ∀ a', (if ∃ j, Own (σ.set i (some (.ref a))) (ρ.set i none) j a' then none else H a') = none → C.H0 a' = none := fun a' q => by
                split at q
                · rename_i ww
                  obtain ⟨j, o⟩ := ww
                  exact (s2.own_at o).2.2
                · exact s2.fresh0 q
              cases rv with
              | val d => exact ho
              | ownL ds => obtain ⟨c, xs, z1, z2, z3⟩ := ho; exact ⟨c, xs, z1, h0 c z2, z3⟩
              | ownD ds => obtain ⟨c, es, ep, z1, z2, z3⟩ := ho; exact ⟨c, es, ep, z1, h0 c z2, z3⟩
            | ex _ _ => cases e
            | bk _ => cases e
            | ct _ => cases e
      · subst hb
        exact ih e
theorem DS.tryM (k : Cok X C) (hfx : ∀ i, C.fx i = none) {hd : List Hd} {l : List Cl} {mb : SM} {body : List Stmt} {h₀ : ExceptHandler} {hs : List ExceptHandler} {pos : Pos} (hst : X.stack = X.env :: X.outer) (hf : X.env.frame = some X.env.locals)
    (hb : ∀ (W : WX) (pn : List (Addr × Obj)) (xe : Value → Shared → Prop), PassesOwn (model X.prog X.w) X.A X.env xe → Cok (X.tr pn xe) ⟨C.w, C.K, C.H0, C.F0, W, C.fx⟩ → DSs (X.tr pn xe) ⟨C.w, C.K, C.H0, C.F0, W, C.fx⟩ body mb)
    (hh : HdsD X C (h₀ :: hs) hd l) : DS X C (.Try body (h₀ :: hs) [] [] pos) (sTryM hd mb) := by
  refine PS.imp (ps_tryM (tb := fun W => tSt ⟨C.w, C.K, C.H0, C.F0, W, C.fx⟩ X.mg mb) hst hf k.nd (fun W pn xe tk hp => hb W pn xe hp ⟨k.K, k.w, k.nd, k.un, tk⟩) (hh.ok k)) fun D σ H q => ?_
  obtain ⟨ρ, F, o, s, e, w⟩ := q
  unfold sTryM at e
  cases hm : mb ρ with
  | none => rw [hm] at e; cases e
  | some om =>
    rw [hm] at e
    refine ⟨ρ, F, om, s.toW _, hm, ?_⟩
    cases om with
    | nx ρ' => cases e; exact fun σ' H' F' kp s' => w σ' H' F' kp s'.reW
    | rt rv ρ' => cases e; exact fun v σ' H' F' kp s' ho => w v σ' H' F' kp s'.reW ho
    | bk ρ' => cases e; exact fun σ' H' F' kp s' => w σ' H' F' kp s'.reW
    | ct ρ' => cases e; exact fun σ' H' F' kp s' => w σ' H' F' kp s'.reW
    | ex x ρ' => exact fun cls d σ' H' F' kp s' ho => HdsD.want k hfx s'.reW ho (w.kp kp) hh e
/-- which of the own exceptions is the class y -/
def csY (names : List String) (y : String) (x : String) : Option Bool := if x ∈ names then some (x == y) else none
theorem csY_some {names : List String} {x y : String} {b : Bool} (h : csY names y x = some b) : x ∈ names ∧ b = (x == y) := by
  unfold csY at h
  split at h
  · cases h; exact ⟨by assumption, rfl⟩
  · cases h
def xeB (K : Frg) (names : List String) : Bool := names.all fun x => names.all fun y => decide (PySem.W.exmOne K (.ref (He.ga K (Str.ofString x))) (.ref (He.ga K (Str.ofString y))) = some (x == y))
structure Xe (K : Frg) (mg : Str → Option Value) (names : List String) : Prop where
  glo : ∀ x ∈ names, mg (Str.ofString x) = some (.ref (He.ga K (Str.ofString x)))
  chk : xeB K names = true
theorem Xe.exm {K : Frg} {mg : Str → Option Value} {names : List String} (h : Xe K mg names) {y : String} (hy : y ∈ names) {x : String} {b : Bool} {cls : Value} (hc : csY names y x = some b) (hm : mg (Str.ofString x) = some cls) : PySem.W.exmOne K cls (.ref (He.ga K (Str.ofString y))) = some b := by
  obtain ⟨hx, rfl⟩ := csY_some hc
  rw [h.glo x hx] at hm; cases hm
  exact of_decide_eq_true (List.all_eq_true.mp (List.all_eq_true.mp h.chk x hx) y hy)
end
end TS
/-! T29: list * int -/
namespace TS
open PySem PySem.Spec PyProof.Rows L2
section
variable {X : Cx} {C : Cc} {a b : Expr} {pos : Pos}
theorem RpA.flat {w : World} {K : Frg} {H : Hp} {F : Addr → Prop} {xs : List V} {ds : List D} (h : RpA w K H F xs ds) : ∀ n : Nat, RpA w K H F (List.replicate n xs).flatten (List.replicate n ds).flatten
  | 0 => .nil
  | n + 1 => by
    rw [List.replicate_succ, List.flatten_cons, List.replicate_succ, List.flatten_cons]
    exact RpA.append h (RpA.flat h n)
def repF (ds : List D) (k : Int) : Option RV := if -1000 ≤ k ∧ k ≤ 1000 ∧ ds.length ≤ 1000 then some (.ownL (List.replicate k.toNat ds).flatten) else none
def repK (r : RV) (d : D) : Option RV := match r, d with
  | .ownL ds, .int k => repF ds k
  | _, _ => none
def eRep (ma : EM) (mb : OM) : EM := fun ρ => eb (ma ρ) fun r => eb (mb ρ) fun d => lift (repK r d)
theorem DE.rep {ma : EM} {mb : OM} (ha : DE X C a ma) (hb : DO X C b mb) : DE X C (.BinOp a .Mult b pos) (eRep ma mb) :=
  PE.imp (pe_op op_rep ha hb) fun σ H Q q => eb_E (m := ma) (f := fun ρ r => eb (mb ρ) fun d => lift (repK r d)) q rfl fun ρ F r s hy hx hr v H' F' g hv => by
    obtain ⟨z, hr⟩ := hr
    cases hb : mb ρ with
    | none => rw [hb] at hr; cases hr
    | some sb =>
      refine ⟨ρ, F', sb, g.sr, hb, ?_⟩
      rw [hb] at hy hx hr
      cases sb with
      | inr e => exact (hx e rfl).step g
      | inl d =>
        intro u H2 F2 g2 hu
        cases hk : repK r d with
        | none => simp [eb, lift, hk] at hr
        | some rv =>
          have hy := hy rv (by simp [eb, lift, hk])
          unfold repK at hk
          split at hk
          case h_2 => cases hk
          rename_i ds k
          unfold repF at hk
          split at hk
          case isFalse => cases hk
          rename_i hc
          cases hk
          obtain ⟨⟨c, xs, ev, h1, h2, h3, h4⟩, _⟩ := hv
          cases hu.int_inv
          have hl := RpA.length h4
          have h1' := g2.le _ _ h1
          refine ⟨c, k, xs, ev, rfl, h1', by omega, by omega, ?_, fun p hp => ?_⟩
          · have : xs.length * k.toNat ≤ 1000 * 1000 := Nat.mul_le_mul (by omega) (by omega)
            rw [sizeLine_eq]; omega
          · have gp : Gr C σ ρ H2 F2 (upd H2 p (.lst (List.replicate k.toNat xs).flatten)) F2 := .new g2.sr hp
            have gg := (g.trans g2).trans gp
            exact hy (.ref p) _ F2 gg ⟨⟨p, _, rfl, upd_same, g2.sr.freshF hp, g2.sr.fresh0 hp, gp.rpA (RpA.flat (g2.rpA h4) _)⟩, fun _ => ⟨p, rfl, by
              cases e : H p with
              | none => rfl
              | some o => have := (g.trans g2).le _ _ e; rw [hp] at this; cases this⟩⟩
end
end TS
/-! T30: {k: v for a in xs for b in ys}: two clauses -/
namespace TS
open PySem PySem.Spec PyProof.Rows L2

theorem turnD_out (kx vx t0 i0 t1 i1 : Expr) (c0 c1 : List Expr) (sc : Scope) (pos : Pos) (it : Value) (Da : Addr) (env : Env) :
    compTurn (.DictComp kx vx [⟨t0, i0, c0, 0⟩, ⟨t1, i1, c1, 0⟩] sc pos) 0 it (.ref Da) env = (do
      standAt i0.pos
      match ← pyNext it with
      | none => pure (.done .next)
      | some v =>
        letOwnedTupleGo t0 it v
        assign t0 env v
        let mut ok := true
        for c in c0 do
          if ok then ok ← isTrue c env (eval c env)
        if ok then
          let x ← eval i1 env
          standAt i1.pos
          let x ← foldedSetIterable i1 env x
          let _ ← runOwn (.compStart (.DictComp kx vx [⟨t0, i0, c0, 0⟩, ⟨t1, i1, c1, 0⟩] sc pos) 1 (← holding [x] (pyIter x)) (.ref Da) env) env
        again (.compLoop (.DictComp kx vx [⟨t0, i0, c0, 0⟩, ⟨t1, i1, c1, 0⟩] sc pos) 0 it (.ref Da) env)) := by rfl
theorem turnD_in (kx vx t0 i0 t1 i1 : Expr) (c0 c1 : List Expr) (sc : Scope) (pos : Pos) (it : Value) (Da : Addr) (env : Env) :
    compTurn (.DictComp kx vx [⟨t0, i0, c0, 0⟩, ⟨t1, i1, c1, 0⟩] sc pos) 1 it (.ref Da) env = (do
      standAt i1.pos
      match ← pyNext it with
      | none => pure (.done .next)
      | some v =>
        letOwnedTupleGo t1 it v
        assign t1 env v
        let mut ok := true
        for c in c1 do
          if ok then ok ← isTrue c env (eval c env)
        if ok then
          (do
            let kv ← eval kx env
            let vv ← holding [kv] (eval vx env)
            standAt { kx.pos with endLine := vx.pos.endLine, endCol := vx.pos.endCol }
            holding [kv, vv] (dictSet Da kv vv))
        again (.compLoop (.DictComp kx vx [⟨t0, i0, c0, 0⟩, ⟨t1, i1, c1, 0⟩] sc pos) 1 it (.ref Da) env)) := by rfl
section
variable {prog : Program} {w : World} {A : Around} {R : Result → Shared → Prop} {s : Shared} {kx vx t0 i0 t1 i1 : Expr} {c0 c1 : List Expr} {sc : Scope} {pos : Pos} {it : Value} {Da : Addr} {env : Env}
abbrev nbR (prog : Program) (w : World) (A : Around) (env : Env) (R : Result → Shared → Prop) : Value → Shared → Prop := notedBy (model prog w) A env fun e s' => R (.error e) s'
abbrev tstS (env : Env) (cs : List Expr) : Sem Bool := forIn cs true fun c r => if r = true then do let ok ← isTrue c env (eval c env); pure (ForInStep.yield ok) else pure (ForInStep.yield r)
/-- the first clause's loop -/
theorem loopD_out (hs : ∀ x, foldedSetIterable i1 env x = pure x) (I : Nat → Shared → Prop)
    (turn : ∀ n s, I n s → wpAny (model prog w) A (pyNext it) (fun r s1 => match r with
      | none => R (.ok .next) s1
      | some v => wpAny (model prog w) A (letOwnedTupleGo t0 it v) (fun _ s2 => wpAny (model prog w) A (assign t0 env v) (fun _ s3 => wpAny (model prog w) A (tstS env c0) (fun ok s4 =>
            if ok = true then wpAny (model prog w) A (eval i1 env) (fun x s5 => wpAny (model prog w) A (pyIter x) (fun it1 s6 =>
              codeAny (model prog w) A (.compStart (.DictComp kx vx [⟨t0, i0, c0, 0⟩, ⟨t1, i1, c1, 0⟩] sc pos) 1 it1 (.ref Da) env) (fun r s' => match r with
                | .ok _ => ∃ m, m < n ∧ I m s'
                | .error _ => False) s6) (nbR prog w A env R) s5) (nbR prog w A env R) s4
            else ∃ m, m < n ∧ I m s4) (nbR prog w A env R) s3) (nbR prog w A env R) s2) (nbR prog w A env R) s1) (nbR prog w A env R) s)
    (n : Nat) (h : I n s) : codeAny (model prog w) A (.compLoop (.DictComp kx vx [⟨t0, i0, c0, 0⟩, ⟨t1, i1, c1, 0⟩] sc pos) 0 it (.ref Da) env) R s := by
  refine codeAny_loop rfl I (fun n s hI => ?_) n h
  show wpAny _ A ((compTurn (.DictComp kx vx [⟨t0, i0, c0, 0⟩, ⟨t1, i1, c1, 0⟩] sc pos) 0 it (.ref Da) env).onRaise (fun x => do noteFrame x env; theTreesLotGoes x)) _ _ s
  refine wpAny_noted ?_
  rw [turnD_out]
  refine wpAny_bind (wpAny_standAt (wpAny_bind (wpAny_mono (turn n s hI) (fun r s1 h1 => ?_) fun _ _ z => z)))
  cases r with
  | none => exact wpAny_pure h1
  | some v =>
    refine wpAny_bind (wpAny_mono h1 (fun _ s2 h2 => ?_) fun _ _ z => z)
    refine wpAny_bind (wpAny_mono h2 (fun _ s3 h3 => wpAny_bind (wpAny_mono h3 (fun ok s4 h4 => ?_) fun _ _ z => z)) fun _ _ z => z)
    cases ok with
    | false => exact wpAny_pure ⟨rfl, h4⟩
    | true =>
      refine wpAny_bind (wpAny_mono h4 (fun x s5 h5 => ?_) fun _ _ z => z)
      refine wpAny_bind (wpAny_standAt (wpAny_bind (wpAny_of_eq (hs x) (wpAny_bind (wpAny_holding (wpAny_mono h5 (fun it1 s6 h6 => ?_) fun _ _ z => z))))))
      refine wpAny_bind (wpAny_runOwn ?_)
      rw [Around.mark_none]
      refine codeAny_mono h6 fun r s' hr => ?_
      cases r with
      | ok f => first | exact wpAny_pure ⟨rfl, hr⟩ | exact wpAny_bind (wpAny_pure (wpAny_pure ⟨rfl, hr⟩))
      | error e => exact hr.elim
/-- the second's -/
theorem loopD_in (I : Nat → Shared → Prop)
    (turn : ∀ n s, I n s → wpAny (model prog w) A (pyNext it) (fun r s1 => match r with
      | none => R (.ok .next) s1
      | some v => wpAny (model prog w) A (letOwnedTupleGo t1 it v) (fun _ s2 => wpAny (model prog w) A (assign t1 env v) (fun _ s3 => wpAny (model prog w) A (tstS env c1) (fun ok s4 =>
            if ok = true then wpAny (model prog w) A (eval kx env) (fun kv s5 => wpAny (model prog w) A (eval vx env) (fun vv s6 =>
              wpAny (model prog w) A (dictSet Da kv vv) (fun _ s7 => ∃ m, m < n ∧ I m s7) (nbR prog w A env R) s6) (nbR prog w A env R) s5) (nbR prog w A env R) s4
            else ∃ m, m < n ∧ I m s4) (nbR prog w A env R) s3) (nbR prog w A env R) s2) (nbR prog w A env R) s1) (nbR prog w A env R) s)
    (n : Nat) (h : I n s) : codeAny (model prog w) A (.compLoop (.DictComp kx vx [⟨t0, i0, c0, 0⟩, ⟨t1, i1, c1, 0⟩] sc pos) 1 it (.ref Da) env) R s := by
  refine codeAny_loop rfl I (fun n s hI => ?_) n h
  show wpAny _ A ((compTurn (.DictComp kx vx [⟨t0, i0, c0, 0⟩, ⟨t1, i1, c1, 0⟩] sc pos) 1 it (.ref Da) env).onRaise (fun x => do noteFrame x env; theTreesLotGoes x)) _ _ s
  refine wpAny_noted ?_
  rw [turnD_in]
  refine wpAny_bind (wpAny_standAt (wpAny_bind (wpAny_mono (turn n s hI) (fun r s1 h1 => ?_) fun _ _ z => z)))
  cases r with
  | none => exact wpAny_pure h1
  | some v =>
    refine wpAny_bind (wpAny_mono h1 (fun _ s2 h2 => ?_) fun _ _ z => z)
    refine wpAny_bind (wpAny_mono h2 (fun _ s3 h3 => wpAny_bind (wpAny_mono h3 (fun ok s4 h4 => ?_) fun _ _ z => z)) fun _ _ z => z)
    cases ok with
    | false => exact wpAny_pure ⟨rfl, h4⟩
    | true =>
      exact wpAny_bind (wpAny_bind (wpAny_mono h4 (fun kv s5 h5 => wpAny_bind (wpAny_holding (wpAny_mono h5 (fun vv s6 h6 => wpAny_bind (wpAny_standAt (wpAny_holding (wpAny_mono h6 (fun _ s7 h7 => wpAny_pure ⟨rfl, h7⟩) fun _ _ z => z)))) fun _ _ z => z))) fun _ _ z => z))
/-- the second's start -/
theorem startD1 (h0 : codeAny (model prog w) A (.compLoop (.DictComp kx vx [⟨t0, i0, c0, 0⟩, ⟨t1, i1, c1, 0⟩] sc pos) 1 it (.ref Da) env) R s)
    (h : wpAny (model prog w) A (pyIter it) (fun it' s' => codeAny (model prog w) A (.compLoop (.DictComp kx vx [⟨t0, i0, c0, 0⟩, ⟨t1, i1, c1, 0⟩] sc pos) 1 it' (.ref Da) env) R s') (nbR prog w A env R) s) :
    codeAny (model prog w) A (.compStart (.DictComp kx vx [⟨t0, i0, c0, 0⟩, ⟨t1, i1, c1, 0⟩] sc pos) 1 it (.ref Da) env) R s := by
  refine codeAny_of_tree ?_
  show wpAny _ _ ((compStart (.DictComp kx vx [⟨t0, i0, c0, 0⟩, ⟨t1, i1, c1, 0⟩] sc pos) 1 it (.ref Da) env).onRaise (fun x => do noteFrame x env; standAt theWindowsPlace)) _ _ s
  refine wpAny_notedAt ?_
  unfold compStart
  show wpAny _ _ (ask >>= _) _ _ s
  refine wpAny_bind (wpAny_askSetting (wpAny_ite ?_))
  split
  · first
      | exact wpAny_bind (wpAny_pure (wpAny_pure (And.intro rfl h0)))
      | exact wpAny_pure (And.intro rfl h0)
  · first
      | exact wpAny_bind (wpAny_rule (wpAny_bind (wpAny_standAt (wpAny_bind (wpAny_mono h (fun it' s' z => wpAny_pure (And.intro rfl z)) fun _ _ x => x)))))
      | (refine wpAny_bind (wpAny_rule ?_); show wpAny _ _ (standAt i1.pos >>= _) _ _ s; exact wpAny_bind (wpAny_standAt (wpAny_bind (wpAny_mono h (fun it' s' z => wpAny_pure (And.intro rfl z)) fun _ _ x => x))))
end
end TS
/-! T31: {k: v for a in xs for b in ys}: its reading -/
namespace TS
open PySem PySem.Spec PyProof.Rows L2
section
variable {X : Cx}
def tDc2 (wk : World) (Kk : Frg) (wi : TI) (g : TG) (wi1 : TI) (g1 : TG) (tk tv : TE) (vs vs1 : List Nat) : TE := fun σ H Q => wi σ H fun J H1 => ∀ Da, H1 Da = none → ∃ W : Nat → Nat → Hp → Prop, (∃ m, W 0 m (upd H1 Da (dicO wk Da [] 0))) ∧ ∀ i m H, W i m H →
  (J.stop i H ∧ Q (.ref Da) H) ∨ (J.go i H ∧ ∃ Nx : Hp → Prop, (∀ H', Nx H' → ∃ m', m' < m ∧ W (i + 1) m' H') ∧ ∀ x H', J.yld i H x H' → g x (L2.wipe σ vs) H' fun σ2 H2 => L2.wipe σ2 vs = L2.wipe σ vs ∧
    wi1 σ2 H2 fun J1 H4 => ∃ W1 : Nat → Nat → Hp → Prop, (∃ m, W1 0 m H4) ∧ ∀ j k H, W1 j k H →
      (J1.stop j H ∧ Nx H) ∨ (J1.go j H ∧ ∃ Nx1 : Hp → Prop, (∀ H', Nx1 H' → ∃ k', k' < k ∧ W1 (j + 1) k' H') ∧ ∀ x H', J1.yld j H x H' → g1 x (L2.wipe σ2 vs1) H' fun σ3 H5 => L2.wipe σ3 vs1 = L2.wipe σ2 vs1 ∧
        tk σ3 H5 fun y H6 => tv σ3 H6 fun z H7 => ∃ b es ep kvs k dk F, y = .ref b ∧ H7 Da = some (dicO wk Da es ep) ∧ RpK wk Kk H7 F es kvs ∧ Rp wk Kk H7 F (.ref b) dk ∧ kOf dk = some k ∧ es.length < sizeLine ∧ ∀ ep', Nx1 (upd H7 Da (dicO wk Da (ePut es k b z) ep'))))
theorem dc2_core {C : Cc} (kc : Cok X C) {pins : List (Addr × Obj)} {s : Shared} {σ : L2.St} {H : Hp} {Q : VK} {kx vx tg iter tg1 iter1 : Expr} {scope : Scope} {own : List (Str × Nat)} {vs1 : List Nat} {pos pos' : Pos} {wi wi1 : TI} {g g1 : TG} {tk tv : TE} {use : Option (Value → Sem Unit)} {Qf : Value → Shared → Prop}
    (hc : X.calm = true) (I : L2.Inv X pins σ H s) (hi : PI X tg iter wi) (ok : BlkOk X.N X.env.scope scope own) (hv : ∀ i ∈ vs1, i ∈ own.map (·.2))
    (hg : ∀ (s : Shared) (H : Hp) (c : Addr) (cl : List (Str × Addr)) (fp : List Addr), PG (BlkX X s H scope c cl fp) tg g)
    (hi1 : ∀ (s : Shared) (H : Hp) (c : Addr) (cl : List (Str × Addr)) (fp : List Addr), PI (BlkX X s H scope c cl fp) tg1 iter1 wi1)
    (hg1 : ∀ (s : Shared) (H : Hp) (c : Addr) (cl : List (Str × Addr)) (fp : List Addr), PG (BlkX X s H scope c cl fp) tg1 g1)
    (hk : ∀ (s : Shared) (H : Hp) (c : Addr) (cl : List (Str × Addr)) (fp : List Addr), PE (BlkX X s H scope c cl fp) kx tk)
    (he : ∀ (s : Shared) (H : Hp) (c : Addr) (cl : List (Str × Addr)) (fp : List Addr), PE (BlkX X s H scope c cl fp) vx tv) (hs : ∀ x, foldedSetIterable iter X.env x = pure x) (hs1 : ∀ env x, foldedSetIterable iter1 env x = pure x)
    (h : tDc2 X.w X.K wi g wi1 g1 tk tv (own.map (·.2)) vs1 σ H Q)
    (hRR : ∀ Da c s' m H', L2.Inv X pins σ H' s' → Q (.ref Da) H' → s'.heap.Ns c m → FpOk X pins H' c → compPost (model X.prog X.w) X.A X.xe use Qf (.ref Da) c (.ok .next) s') :
    wpAny (model X.prog X.w) X.A (comprehension (.DictComp kx vx [⟨tg, iter, [], 0⟩, ⟨tg1, iter1, [], 0⟩] scope pos) scope X.env pos' newDict false (eval iter X.env) use) Qf X.xe s := by
  have hfree : ∀ y ∈ scope.names, y.2 = .free → ∃ c, X.env.cells.lookup y.1 = some c := fun y hy e => (ok.free y hy e).elim (fun k => I.ok.has _ (.inl k)) (fun k => I.ok.has _ (.inr k))
  refine wpAny_comprehension_free (use := use) rfl hs (closure_ok hfree) ok.kind (fun y hy e => by rw [ok.uniq y hy, e]) (thn (hi.run pins s σ H _ I h) fun xv s1 hx => thn hx fun itv s2 h2 => ?_)
  obtain ⟨it, fp, tn, J, H2, e, I2, T, st2, f2, q⟩ := h2
  subst e
  refine wpAny_newObj_type (newEnv_comp ?_)
  generalize hD : s2.heap.objs.size = Da
  obtain ⟨W, ⟨m0, w0⟩, turn⟩ := q Da (I2.hok.fresh (Nat.le_of_eq hD))
  generalize hs3 : ({ s2 with heap := s2.heap.push { cls := .type "dict", data := .dict #[] } } : Shared) = s3
  have I3 : L2.Inv X pins σ (upd H2 Da (dicO X.w Da [] 0)) s3 := by
    rw [← hs3]
    refine I2.laid (t' := s2.toks) (fun b o e => Heap.get?_push_of_some _ e) (Nat.le_of_eq hD) ?_
    rw [← hD]
    exact dicO_empty s2.heap I2.big
  have h3 : s3.heap = s2.heap.push { cls := .type "dict", data := .dict #[] } := by rw [← hs3]
  have f3 : ∀ b ∈ fp, FpOk X pins (upd H2 Da (dicO X.w Da [] 0)) b ∧ b < s3.heap.objs.size := fun b hb => by
    obtain ⟨o, e, _⟩ := T.obj _ _ st2 b hb
    have hlt := Heap.lt_size e
    refine ⟨⟨?_, (f2 b hb).2⟩, by rw [h3, Heap.size_push]; exact Nat.lt_succ_of_lt hlt⟩
    rw [upd_ne (by rw [← hD]; exact Nat.ne_of_lt hlt)]
    exact (f2 b hb).1
  have st3 : tn 0 s3.heap := T.keep _ _ _ st2 fun b _ o e => by rw [h3]; exact Heap.get?_push_of_some _ e
  have I4 := block_start I3 ok kc.nd f3
  have pg := hg s3 (upd H2 Da (dicO X.w Da [] 0)) s3.heap.objs.size (cellsFrom (s3.heap.objs.size + 1) scope.names (cloFrom X.env.cells scope.names [])) fp
  have pi1 := hi1 s3 (upd H2 Da (dicO X.w Da [] 0)) s3.heap.objs.size (cellsFrom (s3.heap.objs.size + 1) scope.names (cloFrom X.env.cells scope.names [])) fp
  have pg1 := hg1 s3 (upd H2 Da (dicO X.w Da [] 0)) s3.heap.objs.size (cellsFrom (s3.heap.objs.size + 1) scope.names (cloFrom X.env.cells scope.names [])) fp
  have pk := hk s3 (upd H2 Da (dicO X.w Da [] 0)) s3.heap.objs.size (cellsFrom (s3.heap.objs.size + 1) scope.names (cloFrom X.env.cells scope.names [])) fp
  have pe := he s3 (upd H2 Da (dicO X.w Da [] 0)) s3.heap.objs.size (cellsFrom (s3.heap.objs.size + 1) scope.names (cloFrom X.env.cells scope.names [])) fp
  show codeAny _ _ (.compStart (.DictComp kx vx [⟨tg, iter, [], 0⟩, ⟨tg1, iter1, [], 0⟩] scope pos) 0 (.ref it) (.ref Da) (compEnvC scope (cellsFrom (s3.heap.objs.size + 1) scope.names (cloFrom X.env.cells scope.names [])) s3.heap.objs.size X.env)) (compPost (model X.prog X.w) X.A X.xe use Qf (.ref Da) s3.heap.objs.size) { s3 with heap := pushCells (s3.heap.push { cls := .type "dict", data := .dict #[] }) scope.names }
  have nfp : ∀ b ∈ fp, (upd H2 Da (dicO X.w Da [] 0)) b = none := fun b hb => (f3 b hb).1.1
  unfold BlkX at pg pi1 pg1 pk pe
  generalize hce : compEnvC scope (cellsFrom (s3.heap.objs.size + 1) scope.names (cloFrom X.env.cells scope.names [])) s3.heap.objs.size X.env = ce at I4 pg pi1 pg1 pk pe ⊢
  have cL : ce.locals = s3.heap.objs.size := by subst hce; rfl
  generalize hH3 : upd H2 Da (dicO X.w Da [] 0) = H3 at I3 I4 pg pi1 pg1 pk pe w0 nfp f3
  generalize hs4 : ({ s3 with heap := pushCells (s3.heap.push { cls := .type "dict", data := .dict #[] }) scope.names } : Shared) = s4 at I4 ⊢
  have st4 : tn 0 s4.heap := T.keep _ _ _ st3 fun b _ o e => by rw [← hs4]; exact pushCells_keeps _ _ _ _ (Heap.get?_push_of_some _ e)
  have stat : ∀ {σ' : L2.St} {H' : Hp} {s' : Shared}, L2.Inv (X.blk s3 H3 scope ce fp) [] σ' H' s' → (∀ b ∈ fp, H' b = none) → ∀ b ∈ fp, FpOk (X.blk s3 H3 scope ce fp) [] H' b := fun {σ' H' s'} I' hn b hb =>
    ⟨hn b hb, (I'.ok.exf b hb).1, I'.ok.exfs b hb, .inl hb, fun x c e => (I'.ok.exf b hb).2 x c e, fun p hp => absurd (show p ∈ ([] : List (Addr × Obj)) ++ [] from hp) (by simp)⟩
  have loop : codeAny (model X.prog X.w) X.A (.compLoop (.DictComp kx vx [⟨tg, iter, [], 0⟩, ⟨tg1, iter1, [], 0⟩] scope pos) 0 (.ref it) (.ref Da) ce) (compPost (model X.prog X.w) X.A X.xe use Qf (.ref Da) s3.heap.objs.size) s4 := by
    refine loopD_out (hs1 ce) (fun n s' => ∃ i H', L2.Inv (X.blk s3 H3 scope ce fp) [] (L2.wipe σ (own.map (·.2))) H' s' ∧ tn i s'.heap ∧ (∀ b ∈ fp, H' b = none) ∧ W i n H') ?_ m0 ⟨0, H3, I4, st4, nfp, w0⟩
    rintro n s5 ⟨i, H5, I5, st5, n5, w5⟩
    rcases turn i n H5 w5 with ⟨stop, qq⟩ | ⟨go, Nx, hNx, step⟩
    · refine thnF (T.done (X.blk s3 H3 scope ce fp) rfl rfl rfl hc i [] s5 _ H5 (fun _ _ => False) I5 (stat I5 n5) st5 stop) fun r s6 ⟨hr, I6⟩ => ?_
      subst hr
      have I7 : L2.Inv X pins σ H5 s6 := I3.call' (ch := fp) I6.os I6.base I6.hok I6.bare fun b hb => ⟨(f3 b hb).1.2.2.2.1, (f3 b hb).1.2.1, (f3 b hb).1.2.2.2.2.1, (f3 b hb).1.2.2.2.2.2⟩
      have nC : H5 s3.heap.objs.size = none := cL ▸ (show H5 ce.locals = none from I6.free)
      obtain ⟨m, hn, _⟩ := I6.loc
      exact hRR Da s3.heap.objs.size s6 m H5 I7 qq (cL ▸ (show s6.heap.Ns ce.locals m from hn)) (I3.fpOk (Nat.le_refl _) nC)
    · refine thnF (T.item (X.blk s3 H3 scope ce fp) rfl rfl rfl hc i [] s5 _ H5 (fun _ _ => False) I5 (stat I5 n5) st5 go) fun r s6 ⟨u, hr, h6⟩ => ?_
      subst hr
      refine thnF h6 fun _ s7 ⟨x, H7, I7, r7, y7, st7, n7⟩ => ?_
      refine thnF (pg.run _ s7 _ H7 x u _ (I7.pinned (stat I7 n7) (T.obj _ _ st7)) r7 (step x H7 y7)) fun _ s8 ⟨σ8, H8, I8, hw8, q8⟩ => ?_
      refine thnF ((pts_nil (X := X.blk s3 H3 scope ce fp)).run _ s8 σ8 H8 (fun b H' => b = true ∧ H' = H8) I8 ⟨rfl, rfl⟩) fun b s9 ⟨H9, I9, eb, e9⟩ => ?_
      subst eb e9
      -- behind the turn
      have fin : ∀ {σ9 : L2.St} {s' : Shared} {H' : Hp}, L2.Inv (X.blk s3 H3 scope ce fp) ([] ++ pinsAt fp s7.heap) σ9 H' s' → (L2.wipe σ (own.map (·.2))).length = σ9.length → (∀ (j : Nat) v, (L2.wipe σ (own.map (·.2)))[j]? = some (some v) → σ9[j]? = some (some v)) → Nx H' →
          ∃ m, m < n ∧ ∃ i H', L2.Inv (X.blk s3 H3 scope ce fp) [] (L2.wipe σ (own.map (·.2))) H' s' ∧ tn i s'.heap ∧ (∀ b ∈ fp, H' b = none) ∧ W i m H' := fun {σ9 s' H'} I' hl hk nx => by
        obtain ⟨m', hm, w'⟩ := hNx H' nx
        have pin' : ∀ b ∈ fp, ∀ o, s7.heap.get? b = some o → s'.heap.get? b = some o ∧ H' b = none := fun b hb o e =>
          let z := I'.pin (b, o) (List.mem_append_right _ (List.mem_append_right _ (mem_pinsAt hb e)))
          ⟨z.1, z.2.1⟩
        refine ⟨m', hm, i + 1, H', (I'.unpinned (pins := [])).weak hl hk, T.keep _ _ _ st7 fun b hb o e => (pin' b hb o e).1, fun b hb => ?_, w'⟩
        obtain ⟨o, e, _⟩ := T.obj _ _ st7 b hb
        exact (pin' b hb o e).2
      have hl8 : (L2.wipe σ (own.map (·.2))).length = σ8.length := by rw [← hw8, wipe_length]
      have hk9 : ∀ (j : Nat) v, (L2.wipe σ (own.map (·.2)))[j]? = some (some v) → (L2.wipe σ8 vs1)[j]? = some (some v) := fun j v e => by
        rw [← hw8] at e
        obtain ⟨e1, e2⟩ := wipe_some e
        rw [wipe_out fun z => e2 (hv j z)]
        exact e1
      simp only [if_true]
      refine thnF (pi1.run _ s9 σ8 H9 _ I9 q8) fun xv s10 hx => thnF hx fun itv s11 h11 => ?_
      obtain ⟨it1, fp1, tn1, J1, H11, e1, I11, T1, st11, f11, W1, ⟨m1, w1⟩, turn1⟩ := h11
      subst e1
      have stat1 : ∀ {H' : Hp}, (∀ b ∈ fp1, H' b = none) → ∀ b ∈ fp1, FpOk (X.blk s3 H3 scope ce fp) ([] ++ pinsAt fp s7.heap) H' b := fun hn b hb => ⟨hn b hb, (f11 b hb).2⟩
      have loop1 : codeAny (model X.prog X.w) X.A (.compLoop (.DictComp kx vx [⟨tg, iter, [], 0⟩, ⟨tg1, iter1, [], 0⟩] scope pos) 1 (.ref it1) (.ref Da) ce)
          (fun r s' => match r with
            | .ok _ => ∃ m, m < n ∧ ∃ i H', L2.Inv (X.blk s3 H3 scope ce fp) [] (L2.wipe σ (own.map (·.2))) H' s' ∧ tn i s'.heap ∧ (∀ b ∈ fp, H' b = none) ∧ W i m H'
            | .error _ => False) s11 := by
        refine loopD_in (fun k s' => ∃ j H', L2.Inv (X.blk s3 H3 scope ce fp) ([] ++ pinsAt fp s7.heap) (L2.wipe σ8 vs1) H' s' ∧ tn1 j s'.heap ∧ (∀ b ∈ fp1, H' b = none) ∧ W1 j k H') ?_ m1 ⟨0, H11, I11.weak (wipe_length _ _) (fun j v e => (wipe_some e).1), st11, fun b hb => (f11 b hb).1, w1⟩
        rintro k s12 ⟨j, H12, I12, st12, n12, w12⟩
        rcases turn1 j k H12 w12 with ⟨stop1, nx1⟩ | ⟨go1, Nx1, hNx1, step1⟩
        · refine thnF (T1.done (X.blk s3 H3 scope ce fp) rfl rfl rfl hc j _ s12 (L2.wipe σ8 vs1) H12 (fun _ _ => False) I12 (stat1 n12) st12 stop1) fun r s13 ⟨hr, I13⟩ => ?_
          subst hr
          exact fin I13 (hl8.trans (wipe_length σ8 vs1).symm) hk9 nx1
        · refine thnF (T1.item (X.blk s3 H3 scope ce fp) rfl rfl rfl hc j _ s12 (L2.wipe σ8 vs1) H12 (fun _ _ => False) I12 (stat1 n12) st12 go1) fun r s13 ⟨u1, hr, h13⟩ => ?_
          subst hr
          refine thnF h13 fun _ s14 ⟨x1, H14, I14, r14, y14, st14, n14⟩ => ?_
          refine thnF (pg1.run _ s14 (L2.wipe σ8 vs1) H14 x1 u1 _ (I14.pinned (stat1 n14) (T1.obj _ _ st14)) r14 (step1 x1 H14 y14)) fun _ s15 ⟨σ15, H15, I15, hw15, q15⟩ => ?_
          refine thnF ((pts_nil (X := X.blk s3 H3 scope ce fp)).run _ s15 σ15 H15 (fun b H' => b = true ∧ H' = H15) I15 ⟨rfl, rfl⟩) fun b s16 ⟨H16, I16, eb, e16⟩ => ?_
          subst eb e16
          simp only [if_true]
          have fin1 : ∀ {s' : Shared} {H' : Hp}, L2.Inv (X.blk s3 H3 scope ce fp) (([] ++ pinsAt fp s7.heap) ++ pinsAt fp1 s14.heap) σ15 H' s' → Nx1 H' → ∃ m, m < k ∧ ∃ j H', L2.Inv (X.blk s3 H3 scope ce fp) ([] ++ pinsAt fp s7.heap) (L2.wipe σ8 vs1) H' s' ∧ tn1 j s'.heap ∧ (∀ b ∈ fp1, H' b = none) ∧ W1 j m H' := fun {s' H'} I' nx => by
            obtain ⟨m', hm, w'⟩ := hNx1 H' nx
            have pin' : ∀ b ∈ fp1, ∀ o, s14.heap.get? b = some o → s'.heap.get? b = some o ∧ H' b = none := fun b hb o e =>
              let z := I'.pin (b, o) (List.mem_append_right _ (List.mem_append_right _ (mem_pinsAt hb e)))
              ⟨z.1, z.2.1⟩
            refine ⟨m', hm, j + 1, H', I'.unpinned.weak (by rw [← hw15, wipe_length]) (fun j v e => by rw [← hw15] at e; exact (wipe_some e).1), T1.keep _ _ _ st14 fun b hb o e => (pin' b hb o e).1, fun b hb => ?_, w'⟩
            obtain ⟨o, e, _⟩ := T1.obj _ _ st14 b hb
            exact (pin' b hb o e).2
          refine thnF (pk.run _ s16 σ15 H16 _ I16 q15) fun z s17 ⟨yk, H17, I17, r17, q17⟩ => ?_
          refine thnF (pe.run _ s17 σ15 H17 _ I17 q17) fun z2 s18 ⟨yv, H18, I18, r18, b, es, ep, kvs, kk, dk, F, ek, hD18, hk18, hb18, hko, hz18, nx⟩ => ?_
          subst ek
          cases r17
          have hu : (nestedKind X.prog X.w).room X.A := by
            have := kc.un
            show X.A.units + 8 < cLine
            omega
          exact d_dictSetO (X := X.blk s3 H3 scope ce fp) (A := X.A) I18 hu hD18 hk18 hb18 hko hz18 r18 fun ep' s19 I19 => fin1 I19 (nx ep')
      exact startD1 loop1 (T1.self X.A 0 _ _ _ st11 loop1)
  exact codeAny_compStart_dict loop (T.self X.A 0 _ _ _ st4 loop)
end
end TS
/-! T32: {k: v for a in xs for b in ys}: its meaning -/
namespace TS
open PySem PySem.Spec PyProof.Rows L2
section
variable {X : Cx}
theorem pe_dc2 {C : Cc} (kc : Cok X C) {kx vx tg iter tg1 iter1 : Expr} {scope : Scope} {own : List (Str × Nat)} {vs1 : List Nat} {pos : Pos} {wi wi1 : TI} {g g1 : TG} {tk tv : TE} (hc : X.calm = true) (hi : PI X tg iter wi) (ok : BlkOk X.N X.env.scope scope own) (hv : ∀ i ∈ vs1, i ∈ own.map (·.2))
    (hg : ∀ (s : Shared) (H : Hp) (c : Addr) (cl : List (Str × Addr)) (fp : List Addr), PG (BlkX X s H scope c cl fp) tg g)
    (hi1 : ∀ (s : Shared) (H : Hp) (c : Addr) (cl : List (Str × Addr)) (fp : List Addr), PI (BlkX X s H scope c cl fp) tg1 iter1 wi1)
    (hg1 : ∀ (s : Shared) (H : Hp) (c : Addr) (cl : List (Str × Addr)) (fp : List Addr), PG (BlkX X s H scope c cl fp) tg1 g1)
    (hk : ∀ (s : Shared) (H : Hp) (c : Addr) (cl : List (Str × Addr)) (fp : List Addr), PE (BlkX X s H scope c cl fp) kx tk)
    (he : ∀ (s : Shared) (H : Hp) (c : Addr) (cl : List (Str × Addr)) (fp : List Addr), PE (BlkX X s H scope c cl fp) vx tv) (hs : ∀ x, foldedSetIterable iter X.env x = pure x := by intro _; rfl) (hs1 : ∀ env x, foldedSetIterable iter1 env x = pure x := by intro _ _; rfl) :
    PE X (.DictComp kx vx [⟨tg, iter, [], 0⟩, ⟨tg1, iter1, [], 0⟩] scope pos) (tDc2 X.w X.K wi g wi1 g1 tk tv (own.map (·.2)) vs1) := by
  refine ⟨fun pins s σ H Q I h => ?_⟩
  rw [arm_eval_DictComp]
  refine dc2_core kc hc I hi ok hv hg hi1 hg1 hk he hs hs1 h fun Da c s' m H' I' q hn f => ⟨m, hn, fun h'' sb => ?_⟩
  obtain ⟨f0, f1, f2, f3, f4, f5⟩ := f
  exact ⟨.ref Da, H', I'.turned (t' := s'.toks) (fun b o hb e => (sb.2 b hb).trans e) f0 f1 f3 f4 f5, rfl, q⟩
theorem ps_setDc2 {C : Cc} (kc : Cok X C) {kx vx tg iter tg1 iter1 : Expr} {scope : Scope} {own : List (Str × Nat)} {vs1 : List Nat} {pos : Pos} {i : Nat} {y : Str} {py spos : Pos} {wi wi1 : TI} {g g1 : TG} {tk tv : TE} (hc : X.calm = true) (hy : X.N[i]? = some y) (hyl : X.env.scope.names.lookup y = some .local)
    (hsw : swapsWith (.DictComp kx vx [⟨tg, iter, [], 0⟩, ⟨tg1, iter1, [], 0⟩] scope pos) (some (.Name y py)) spos.line X.env = pure true) (hi : PI X tg iter wi) (ok : BlkOk X.N X.env.scope scope own) (hv : ∀ i ∈ vs1, i ∈ own.map (·.2))
    (hg : ∀ (s : Shared) (H : Hp) (c : Addr) (cl : List (Str × Addr)) (fp : List Addr), PG (BlkX X s H scope c cl fp) tg g)
    (hi1 : ∀ (s : Shared) (H : Hp) (c : Addr) (cl : List (Str × Addr)) (fp : List Addr), PI (BlkX X s H scope c cl fp) tg1 iter1 wi1)
    (hg1 : ∀ (s : Shared) (H : Hp) (c : Addr) (cl : List (Str × Addr)) (fp : List Addr), PG (BlkX X s H scope c cl fp) tg1 g1)
    (hk : ∀ (s : Shared) (H : Hp) (c : Addr) (cl : List (Str × Addr)) (fp : List Addr), PE (BlkX X s H scope c cl fp) kx tk)
    (he : ∀ (s : Shared) (H : Hp) (c : Addr) (cl : List (Str × Addr)) (fp : List Addr), PE (BlkX X s H scope c cl fp) vx tv) (hs : ∀ x, foldedSetIterable iter X.env x = pure x := by intro _; rfl) (hs1 : ∀ env x, foldedSetIterable iter1 env x = pure x := by intro _ _; rfl) :
    PS X (.Assign [.Name y py] (.DictComp kx vx [⟨tg, iter, [], 0⟩, ⟨tg1, iter1, [], 0⟩] scope pos) spos) (tAsg (tDc2 X.w X.K wi g wi1 g1 tk tv (own.map (·.2)) vs1) (gName i)) := by
  refine ⟨fun pins s σ H D I h => ?_⟩
  rw [exec_Assign_Name_used _ _ _ _ hsw]
  refine wpAny_bind (wpAny_standAt (wpAny_bind ?_))
  show wpAny _ X.A (do let _ ← comprehension (.DictComp kx vx [⟨tg, iter, [], 0⟩, ⟨tg1, iter1, [], 0⟩] scope pos) scope X.env (firstIterPos [⟨tg, iter, [], 0⟩, ⟨tg1, iter1, [], 0⟩] pos) newDict false (eval iter X.env) (some (assign (.Name y py) X.env))) _ _ s
  refine wpAny_bind (thn (dc2_core (Qf := fun _ s' => SP X pins D .next s') (Q := fun x H1 => gName i x σ H1 D.nx) kc hc I hi ok hv hg hi1 hg1 hk he hs hs1 h fun L c s' m H' I' q hn f => ?_) fun _ s' hq => wpAny_pure (wpAny_pure hq))
  show wpAny _ _ (assign (.Name y py) X.env (.ref L)) _ _ _
  refine wpAny_assign_Name (store_ok2 (v := V.ref L) I' kc.nd hy (.inl hyl) rfl (fun s2 I2 ⟨a, sb, ha⟩ => ?_) (.inr hyl))
  obtain ⟨f0, f1, f2, f3, f4, f5⟩ := f
  have haC : c ≠ a := ha.elim (fun z => by rw [z]; exact f1) fun z e => f4 y a z e.symm
  exact ⟨m, hn.sameBut sb haC, fun h3 sb3 => ⟨_, H', I2.turned (t' := s2.toks) (fun b o hb e => (sb3.2 b hb).trans e) f0 f1 f3 f4 f5, q⟩⟩
end
section
open Classical
variable {C : Cc} {H H' : Hp} {F F' : Addr → Prop} {σ σ' : L2.St} {ρ ρ' : Regs}
/-- a block's registers, at a later state -/
theorem SR.reblk {H3 : Hp} {F2 : Addr → Prop} {C4 : Cc} {vs : List Nat} (s : SR C H F σ ρ) (s4 : SR C4 H3 F2 σ' ρ') (ew : C4.w = C.w) (eK : C4.K = C.K) (kp : Kp H3 F2 H F) (ho : plainAt ρ' vs = true) (hs : ∀ j, j ∉ vs → σ'[j]? = σ[j]? ∧ ρ'[j]? = ρ[j]?) : SR (blkC C H F σ ρ) H F σ' ρ' := by
  have sb := s.blk
  have own : ∀ {j a}, Own σ' ρ' j a → Own σ ρ j a := fun {j a} ⟨h1, r, h2, h3⟩ => by
    by_cases hj : j ∈ vs
    · rw [plainAt_get ho hj h2] at h3; cases h3
    · obtain ⟨q1, q2⟩ := hs j hj
      exact ⟨q1 ▸ h1, r, q2 ▸ h2, h3⟩
  refine ⟨s4.len, fun i r e => ?_, fun i j a o1 o2 => sb.dist i j a (own o1) (own o2), sb.h0, sb.f0, sb.fnew, sb.fdom, fun i v e => by cases e⟩
  by_cases hi : i ∈ vs
  · obtain ⟨v, h1, h2⟩ := s4.at_ i r e
    have := plainAt_get ho hi e
    cases r with
    | val d =>
      have h2 : Rp C4.w C4.K H3 F2 v d := h2
      rw [ew, eK] at h2
      exact ⟨v, h1, Rp.mono kp.keep kp.ff d v h2⟩
    | ownL _ => cases this
    | ownD _ => cases this
  · obtain ⟨q1, q2⟩ := hs i hi
    obtain ⟨v, h1, h2⟩ := sb.at_ i r (q2 ▸ e)
    exact ⟨v, q1 ▸ h1, h2⟩
end
/-- for each of ds1 -/
def mDcI (t1 : Tgt) (vs1 : List Nat) (km vm : OM) (ρ1 : Regs) : List D → List (D × D) → Option (List (D × D))
  | [], acc => some acc
  | d :: ds, acc => match tgtM t1 d (wipeR ρ1 vs1) with
    | none => none
    | some ρ2 => match km ρ2 with
      | some (.inl dk) => match vm ρ2 with
        | some (.inl x) => match kOf dk with
          | some k => if acc.length < 1000 then mDcI t1 vs1 km vm ρ1 ds (dPut acc k dk x) else none
          | none => none
        | _ => none
      | _ => none
def mDc2 (t : Tgt) (vs : List Nat) (it1 : LM) (t1 : Tgt) (vs1 : List Nat) (km vm : OM) (ρ : Regs) : List D → List (D × D) → Option (List (D × D))
  | [], acc => some acc
  | d :: ds, acc => match tgtM t d (wipeR ρ vs) with
    | none => none
    | some ρ1 => if plainAt ρ1 vs = true then (match it1 ρ1 with
      | some (.inl ds1) => match mDcI t1 vs1 km vm ρ1 ds1 acc with
        | some acc' => mDc2 t vs it1 t1 vs1 km vm ρ ds acc'
        | none => none
      | _ => none) else none
def eDc2 (t : Tgt) (vs : List Nat) (it : LM) (it1 : LM) (t1 : Tgt) (vs1 : List Nat) (km vm : OM) : EM := fun ρ => eb (it ρ) fun ds => if plainAt ρ vs = true then (match mDc2 t vs it1 t1 vs1 km vm ρ ds [] with
  | some kvs => ok (.ownD kvs)
  | none => none) else none
def tIx (C : Cc) (mg : Str → Option Value) (it : LM) : TI := fun σ H R => ∃ C' : Cc, (∀ i, C'.fx i = none) ∧ Blk C C' ∧ tI C' mg it σ H R
section
variable {X : Cx} {C : Cc} {kx vx tg iter tg1 iter1 : Expr} {scope : Scope} {own : List (Str × Nat)} {pos : Pos} {t t1 : Tgt} {it it1 : LM} {km vm : OM}
theorem ItOk.re {C2 : Cc} {J : It} (ew : C2.w = C.w) (eK : C2.K = C.K) : ∀ {ds : List D} {i : Nat} {H : Hp} {F : Addr → Prop}, ItOk C2 J i H F ds → ItOk C J i H F ds
  | [], _, _, _, h => h
  | d :: ds, i, H, F, h => fun H' F' kp => by
    obtain ⟨h1, h2⟩ := h H' F' kp
    refine ⟨h1, fun x H2 y => ?_⟩
    obtain ⟨q1, q2, q3⟩ := h2 x H2 y
    exact ⟨q1, by rw [← ew, ← eK]; exact q2, ItOk.re ew eK q3⟩
theorem dc2_imp (k : Cok X C) {vs vs1 : List Nat} {σ : L2.St} {H : Hp} {Q : VK} (hsl : ∀ i ∈ t.slots, i ∈ vs) (hsl1 : ∀ i ∈ t1.slots, i ∈ vs1) (hv : ∀ i ∈ vs1, i ∈ vs) (q : tE C X.mg (eDc2 t vs it it1 t1 vs1 km vm) σ H Q) :
    tDc2 X.w X.K (tI C X.mg it) (gOf X.K t) (tIx C X.mg it1) (gOf X.K t1) (tVx C X.mg km) (tVx C X.mg vm) vs vs1 σ H Q := by
  refine ei_I q fun ρ F ds s hy hx hr J H1 F1 g hit Da hDa => ?_
  obtain ⟨r, hr⟩ := hr
  by_cases hpl : plainAt ρ vs = true
  case neg => rw [if_neg hpl] at hr; cases hr
  rw [if_pos hpl] at hy hr
  cases hm : mDc2 t vs it1 t1 vs1 km vm ρ ds [] with
  | none => rw [hm] at hr; cases hr
  | some all =>
    rw [hm] at hy hr
    have hY := hy _ rfl
    have no1 : ∀ i, ¬ Own σ ρ i Da := g.sr.not_own hDa
    have nF1 : ¬ F1 Da := g.sr.freshF hDa
    have h01 : C.H0 Da = none := g.sr.fresh0 hDa
    have ew : X.w = C.w := k.w.symm
    refine ⟨fun i m H2 => ∃ F2 ds2 es ep acc, m = ds2.length ∧ Le H1 H2 ∧ Kp H1 F1 H2 F2 ∧ SR C H2 F2 σ ρ ∧ H2 Da = some (dicO C.w Da es ep) ∧ ¬ F2 Da ∧ RpK C.w C.K H2 F2 es acc ∧ mDc2 t vs it1 t1 vs1 km vm ρ ds2 acc = some all ∧ ItOk C J i H2 F2 ds2, ?_, ?_⟩
    · have kn : Kp H1 F1 (upd H1 Da (dicO X.w Da [] 0)) F1 := (Le.new hDa).kp
      exact ⟨ds.length, F1, ds, [], 0, [], rfl, Le.new hDa, kn, g.sr.le (Le.new hDa), by rw [← ew]; exact upd_same, nF1, .nil, hm, hit.kp kn⟩
    rintro i m H2 ⟨F2, ds2, es, ep, acc, rfl, le2, kp2, s2, hD2, nF2, ra2, hm2, it2⟩
    cases ds2 with
    | nil =>
      cases hm2
      refine .inl ⟨it2 H2 F2 .refl, ?_⟩
      exact hY _ H2 F2 ⟨g.le.trans le2, fun a h => kp2.ff a (g.ff a h), s2, g.sr0⟩ ⟨⟨Da, es, ep, rfl, hD2, nF2, h01, ra2⟩, fun _ => ⟨Da, rfl, by
        cases q : H Da with
        | none => rfl
        | some o => have := g.le _ _ q; rw [hDa] at this; cases this⟩⟩
    | cons d ds2 =>
      obtain ⟨go, nxt⟩ := it2 H2 F2 .refl
      unfold mDc2 at hm2
      cases ht1 : tgtM t d (wipeR ρ vs) with
      | none => rw [ht1] at hm2; cases hm2
      | some ρ1 =>
        simp only [ht1] at hm2
        by_cases hpl1 : plainAt ρ1 vs = true
        case neg => rw [if_neg hpl1] at hm2; cases hm2
        rw [if_pos hpl1] at hm2
        refine .inr ⟨go, fun H3 => ∃ F3 es ep acc, Le H1 H3 ∧ Kp H1 F1 H3 F3 ∧ SR C H3 F3 σ ρ ∧ H3 Da = some (dicO C.w Da es ep) ∧ ¬ F3 Da ∧ RpK C.w C.K H3 F3 es acc ∧ mDc2 t vs it1 t1 vs1 km vm ρ ds2 acc = some all ∧ ItOk C J (i + 1) H3 F3 ds2,
          fun H3 ⟨F3, es, ep, acc, h⟩ => ⟨ds2.length, Nat.lt_succ_self _, F3, ds2, es, ep, acc, rfl, h⟩, fun x H3 y => ?_⟩
        obtain ⟨le3, x3, it3⟩ := nxt x H3 y
        have s3 := s2.le le3
        have hD3 : H3 Da = some (dicO C.w Da es ep) := le3 _ _ hD2
        have b3 : Blk C (blkC C H3 F2 σ ρ) := blkC_ok
        have sb3 : SR (blkC C H3 F2 σ ρ) H3 F2 (L2.wipe σ vs) (wipeR ρ vs) := (s3.blk).wipe vs fun _ => rfl
        refine gOf_ok (C := blkC C H3 F2 σ ρ) k.K sb3 x3 ht1 (fun _ _ => rfl) fun σ4 s4 hw4 => ?_
        have hw4 : L2.wipe σ4 vs = L2.wipe σ vs := by rw [hw4 vs hsl, wipe_wipe]
        have sl4 := slots_back hsl ht1 hw4
        refine ⟨hw4, ?_⟩
        cases hi1 : it1 ρ1 with
        | none => simp only [hi1] at hm2; cases hm2
        | some ri =>
          cases ri with
          | inr z => simp only [hi1] at hm2; cases hm2
          | inl ds1 =>
            simp only [hi1] at hm2
            cases hmi : mDcI t1 vs1 km vm ρ1 ds1 acc with
            | none => simp only [hmi] at hm2; cases hm2
            | some acc' =>
              simp only [hmi] at hm2
              refine ⟨blkC C H3 F2 σ ρ, fun _ => rfl, b3, ρ1, F2, _, s4, hi1, fun J1 H4 F4 g4 hit4 => ?_⟩
              refine ⟨fun j m H5 => ∃ F5 ds5 es ep acc5, m = ds5.length ∧ Le H1 H5 ∧ Kp H3 F2 H5 F5 ∧ SR C H5 F5 σ ρ ∧ H5 Da = some (dicO C.w Da es ep) ∧ ¬ F5 Da ∧ RpK C.w C.K H5 F5 es acc5 ∧ mDcI t1 vs1 km vm ρ1 ds5 acc5 = some acc' ∧ ItOk C J1 j H5 F5 ds5, ?_, ?_⟩
              · exact ⟨ds1.length, F4, ds1, es, ep, acc, rfl, (le2.trans le3).trans g4.le, g4.kp, s3.back g4.sr g4.le g4.ff hpl sl4, g4.le _ _ hD3, g4.sr.not_F hD3 nF2 no1, RpK.mono (g4.kp.keep) g4.ff _ _ (RpK.mono le3.keep (fun _ z => z) _ _ ra2), hmi, ItOk.re (C2 := blkC C H3 F2 σ ρ) (C := C) rfl rfl hit4⟩
              rintro j m H5 ⟨F5, ds5, es5, ep5, acc5, rfl, le5, kp5, s5, hD5, nF5, ra5, hm5, it5⟩
              cases ds5 with
              | nil =>
                cases hm5
                exact .inl ⟨it5 H5 F5 .refl, F5, es5, ep5, _, le5, (kp2.trans le3.kp).trans kp5, s5, hD5, nF5, ra5, hm2, it3.kp kp5⟩
              | cons d1 ds5 =>
                obtain ⟨go1, nxt1⟩ := it5 H5 F5 .refl
                unfold mDcI at hm5
                cases ht2 : tgtM t1 d1 (wipeR ρ1 vs1) with
                | none => rw [ht2] at hm5; cases hm5
                | some ρ2 =>
                  simp only [ht2] at hm5
                  refine .inr ⟨go1, fun H6 => ∃ F6 es ep acc6, Le H1 H6 ∧ Kp H3 F2 H6 F6 ∧ SR C H6 F6 σ ρ ∧ H6 Da = some (dicO C.w Da es ep) ∧ ¬ F6 Da ∧ RpK C.w C.K H6 F6 es acc6 ∧ mDcI t1 vs1 km vm ρ1 ds5 acc6 = some acc' ∧ ItOk C J1 (j + 1) H6 F6 ds5,
                    fun H6 ⟨F6, es, ep, acc6, h⟩ => ⟨ds5.length, Nat.lt_succ_self _, F6, ds5, es, ep, acc6, rfl, h⟩, fun x1 H6 y1 => ?_⟩
                  obtain ⟨le6, x6, it6⟩ := nxt1 x1 H6 y1
                  have s6 := s5.le le6
                  have hD6 : H6 Da = some (dicO C.w Da es5 ep5) := le6 _ _ hD5
                  have kp6 : Kp H3 F2 H6 F5 := kp5.trans le6.kp
                  have b6 : Blk C (blkC C H6 F5 σ ρ) := blkC_ok
                  have sb6 : SR (blkC C H6 F5 σ ρ) H6 F5 (L2.wipe σ4 vs1) (wipeR ρ1 vs1) := (SR.reblk (vs := vs) s6 s4 rfl rfl kp6 hpl1 sl4).wipe vs1 fun _ => rfl
                  refine gOf_ok (C := blkC C H6 F5 σ ρ) k.K sb6 x6 ht2 (fun _ _ => rfl) fun σ7 s7 hw7 => ?_
                  have hw7 : L2.wipe σ7 vs1 = L2.wipe σ4 vs1 := by rw [hw7 vs1 hsl1, wipe_wipe]
                  have sl7 := slots_back hsl1 ht2 hw7
                  have sl : ∀ j, j ∉ vs → σ7[j]? = σ[j]? ∧ ρ2[j]? = ρ[j]? := fun j hj => by
                    obtain ⟨e1, e2⟩ := sl7 j (fun z => hj (hv j z))
                    obtain ⟨e3, e4⟩ := sl4 j hj
                    exact ⟨e1.trans e3, e2.trans e4⟩
                  refine ⟨hw7, ?_⟩
                  cases hk1 : km ρ2 with
                  | none => simp only [hk1] at hm5; cases hm5
                  | some rk =>
                    cases rk with
                    | inr z => simp only [hk1] at hm5; cases hm5
                    | inl dk =>
                      simp only [hk1] at hm5
                      refine ⟨blkC C H6 F5 σ ρ, fun _ => rfl, b6, ρ2, F5, _, s7, hk1, fun yk H8 F8 g8 x8 => ?_⟩
                      cases he1 : vm ρ2 with
                      | none => simp only [he1] at hm5; cases hm5
                      | some re =>
                        cases re with
                        | inr z => simp only [he1] at hm5; cases hm5
                        | inl xd =>
                          simp only [he1] at hm5
                          refine ⟨blkC C H6 F5 σ ρ, fun _ => rfl, b6, ρ2, F8, _, g8.sr, he1, fun yv H9 F9 g9 x9 => ?_⟩
                          cases hko : kOf dk with
                          | none => simp only [hko] at hm5; cases hm5
                          | some kk =>
                            simp only [hko] at hm5
                            by_cases hl : acc5.length < 1000
                            case neg => rw [if_neg hl] at hm5; cases hm5
                            rw [if_pos hl] at hm5
                            obtain ⟨bk, rfl⟩ := Rp.key_ref hko x8
                            have le9 : Le H6 H9 := g8.le.trans g9.le
                            have k9 : Kp H6 F5 H9 F9 := g8.kp.trans g9.kp
                            have hD9 : H9 Da = some (dicO C.w Da es5 ep5) := le9 _ _ hD6
                            have nF9 : ¬ F9 Da := g9.sr.not_F hD6 nF5 no1
                            have s9 : SR C H9 F9 σ ρ := s6.back g9.sr le9 k9.ff hpl sl
                            have ra9 : RpK C.w C.K H9 F9 es5 acc5 := RpK.mono k9.keep k9.ff _ _ (RpK.mono le6.keep (fun _ z => z) _ _ ra5)
                            have x89 : Rp C.w C.K H9 F9 (.ref bk) dk := g9.kp.rp (C := C) x8
                            refine ⟨bk, es5, ep5, acc5, kk, dk, F9, rfl, by rw [ew]; exact hD9, by rw [ew, ← k.K]; exact ra9, by rw [ew, ← k.K]; exact x89, hko, by rw [ra9.length, sizeLine_eq]; omega, fun ep' => ?_⟩
                            rw [ew]
                            have ku : Keep F9 H9 (upd H9 Da (dicO C.w Da (ePut es5 kk bk yv) ep')) := Keep.upd hD9 True.intro nF9
                            have k10 : Kp H9 F9 (upd H9 Da (dicO C.w Da (ePut es5 kk bk yv) ep')) F9 := ⟨ku, fun _ z => z⟩
                            refine ⟨F9, _, ep', _, fun a o h => ?_, kp6.trans (k9.trans k10), s9.upd_free hD9 nF9 True.intro h01 no1, upd_same, nF9, RpK.mono ku (fun _ z => z) _ _ (ra9.put hko x89 x9), hm5, it6.kp (k9.trans k10)⟩
                            have ne : a ≠ Da := by rintro rfl; rw [hDa] at h; cases h
                            rw [upd_ne ne]
                            exact le9 _ _ (le6 _ _ (le5 _ _ h))
theorem xI (k : Cok X C) (hi : ∀ (s : Shared) (H : Hp) (a : Addr) (cl : List (Str × Addr)) (fp : List Addr) (C' : Cc), (∀ i, C'.fx i = none) → Cok (BlkX X s H scope a cl fp) C' → DI (BlkX X s H scope a cl fp) C' tg1 iter1 it1) :
    ∀ (s : Shared) (H : Hp) (a : Addr) (cl : List (Str × Addr)) (fp : List Addr), PI (BlkX X s H scope a cl fp) tg1 iter1 (tIx C X.mg it1) :=
  fun s H a cl fp => ⟨fun pins s' σ H Q I ⟨C', h1, h2, q⟩ => (hi _ _ a cl fp C' h1 (h2.cok k ..)).run pins s' σ H Q I q⟩
theorem DS.setDc2 (k : Cok X C) {i : Nat} {vs1 : List Nat} {y : Str} {py spos : Pos} (hy : X.N[i]? = some y) (hyl : X.env.scope.names.lookup y = some .local)
    (hsw : swapsWith (.DictComp kx vx [⟨tg, iter, [], 0⟩, ⟨tg1, iter1, [], 0⟩] scope pos) (some (.Name y py)) spos.line X.env = pure true) (hc : X.calm = true) (hi : DI X C tg iter it) (ok : BlkOk X.N X.env.scope scope own) (hv : ∀ i ∈ vs1, i ∈ own.map (·.2))
    (hg : ∀ (s : Shared) (H : Hp) (c : Addr) (cl : List (Str × Addr)) (fp : List Addr), DG (BlkX X s H scope c cl fp) tg t)
    (hi1 : ∀ (s : Shared) (H : Hp) (a : Addr) (cl : List (Str × Addr)) (fp : List Addr) (C' : Cc), (∀ i, C'.fx i = none) → Cok (BlkX X s H scope a cl fp) C' → DI (BlkX X s H scope a cl fp) C' tg1 iter1 it1)
    (hg1 : ∀ (s : Shared) (H : Hp) (c : Addr) (cl : List (Str × Addr)) (fp : List Addr), DG (BlkX X s H scope c cl fp) tg1 t1)
    (hk : ∀ (s : Shared) (H : Hp) (a : Addr) (cl : List (Str × Addr)) (fp : List Addr) (C' : Cc), (∀ i, C'.fx i = none) → Cok (BlkX X s H scope a cl fp) C' → DV (BlkX X s H scope a cl fp) C' kx km)
    (he : ∀ (s : Shared) (H : Hp) (a : Addr) (cl : List (Str × Addr)) (fp : List Addr) (C' : Cc), (∀ i, C'.fx i = none) → Cok (BlkX X s H scope a cl fp) C' → DV (BlkX X s H scope a cl fp) C' vx vm)
    (hf : C.fx i = none := by rfl) (hsl : ∀ i ∈ t.slots, i ∈ own.map (·.2) := by decide) (hsl1 : ∀ i ∈ t1.slots, i ∈ vs1 := by decide) (hs : ∀ x, foldedSetIterable iter X.env x = pure x := by intro _; rfl) (hs1 : ∀ env x, foldedSetIterable iter1 env x = pure x := by intro _ _; rfl) :
    DS X C (.Assign [.Name y py] (.DictComp kx vx [⟨tg, iter, [], 0⟩, ⟨tg1, iter1, [], 0⟩] scope pos) spos) (sSet i (eDc2 t (own.map (·.2)) it it1 t1 vs1 km vm)) :=
  PS.imp (ps_setDc2 (g := gOf X.K t) (g1 := gOf X.K t1) k hc hy hyl hsw hi ok hv hg (xI k hi1) hg1 (xV k hk) (xV k he) hs hs1) fun En σ H q => by
    refine dc2_imp k hsl hsl1 hv (st_E q fun ρ F a o s _ e w => ?_)
    cases e
    exact fun v H' F' g x => w _ H' F' g.kp (g.sr.set x.1 (fun ho b eb j oj => by
      obtain ⟨c, ec, n⟩ := x.2 ho
      rw [ec] at eb; cases eb
      exact g.sr0.not_own n j oj) hf)
end
end TS
/-! T33: x[::-1] -/
namespace TS
open PySem PySem.Spec PyProof.Rows L2
section
variable {prog : Program} {w : World} {A : Around} {E : Value → Shared → Prop} {s : Shared}
theorem rev_applied {sl : Addr} {vk : Value} {n : Nat} {Q : Int × Int × Nat → Shared → Prop} (hs : s.heap.IsSliceOf sl .none .none vk) (pk : IsPart vk (some (-1))) (h : Q ((n : Int) - 1, -1, n) s) : wpAny (model prog w) A (Builtin.Slice.sliceApplied (.ref sl) (pure (n : Int))) Q E s := by
  obtain ⟨os, ho, hc, hd⟩ := id hs
  unfold Builtin.Slice.sliceApplied Builtin.Slice.sliceFields
  refine wpAny_bind (wpAny_bind (wpAny_field ho hd (x := .none) rfl (wpAny_bind (wpAny_field ho hd (x := .none) rfl (wpAny_bind (wpAny_field ho hd (x := vk) rfl (wpAny_pure ?_)))))))
  refine wpAny_bind (HT.slicePart_ pk ?_)
  show wpAny _ _ (if ((-1 : Int) == 0) = true then _ else _) _ _ s
  rw [if_neg (by decide)]
  refine wpAny_bind (HT.slicePart_ IsPart.none (wpAny_bind (HT.slicePart_ IsPart.none (wpAny_bind (wpAny_pure ?_)))))
  show wpAny _ _ (pure (((n : Int) - 1), (-1 : Int), Builtin.Slice.slicePlaces ((n : Int) - 1) (-1) (-1))) _ _ s
  have e : Builtin.Slice.slicePlaces ((n : Int) - 1) (-1) (-1) = n := by
    unfold Builtin.Slice.slicePlaces
    by_cases h0 : (n : Int) - 1 > -1
    · simp only [show ¬ ((-1 : Int) > 0) by decide, if_false, h0, if_true]
      rw [show (-(-1) : Int) = 1 by decide, Int.ediv_one]; omega
    · simp only [show ¬ ((-1 : Int) > 0) by decide, if_false, h0]
      omega
  rw [e]
  exact wpAny_pure h
theorem fmap_congr {α β : Type} {f g : α → Option β} : ∀ (xs : List α), (∀ x ∈ xs, f x = g x) → xs.filterMap f = xs.filterMap g
  | [], _ => rfl
  | x :: xs, h => by
    rw [List.filterMap_cons, List.filterMap_cons, h x List.mem_cons_self, fmap_congr xs fun y hy => h y (List.mem_cons_of_mem _ hy)]
theorem rev_pick (xs : Array Value) : ((List.range xs.size).filterMap fun (m : Nat) => xs[(((xs.size : Int) - 1) + (m : Int) * (-1)).toNat]?).toArray = xs.toList.reverse.toArray := by
  have e : ∀ m ∈ List.range xs.size, xs[(((xs.size : Int) - 1) + (m : Int) * (-1)).toNat]? = xs[xs.size - 1 - m]? := fun m hm => by
    have := List.mem_range.mp hm
    congr 1; omega
  rw [fmap_congr _ e]
  have e2 : ((List.range xs.size).filterMap fun m => xs[xs.size - 1 - m]?) = ((List.range xs.size).map fun k => xs.size - 1 - k).filterMap (xs[·]?) := by rw [List.filterMap_map]; rfl
  rw [e2, PySem.W.krv_range, List.filterMap_reverse, PySem.W.krv_all]
theorem getItem_tup_rev {t sl : Addr} {items : Array Value} {vk : Value} {Q : Value → Shared → Prop} (ht : IsTup s.heap t items) (hs : s.heap.IsSliceOf sl .none .none vk) (pk : IsPart vk (some (-1)))
    (h : Q (.ref s.heap.objs.size) { s with heap := s.heap.push { cls := .type "tuple", data := .seq items.toList.reverse.toArray } }) (hsz : items.size ≤ sizeLine) : wpAny (model prog w) A (getItem (.ref t) (.ref sl)) Q E s := by
  have hok : sizeOk (.seq items.toList.reverse.toArray) := by
    show items.toList.reverse.toArray.size ≤ sizeLine
    rw [List.size_toArray, List.length_reverse, Array.length_toList]; exact hsz
  obtain ⟨os, ho, hc, hd⟩ := id hs
  have hT : s.TypeIs (.ref sl) "slice" := ⟨os, ho, hc⟩
  unfold getItem
  try with_reducible refine wpAny_holding ?_
  first | refine wpAny_bind (wpAny_pure ?_) | skip
  refine wpAny_bind (wpAny_sequenceKey ht.typeIs (by decide) ?_)
  refine wpAny_bind (wpAny_callSpecial?_slot (name := Str.ofString "__getitem__") ht.typeIs PyProof.Rows.slot_tuple_getitem
    (wpAny_call_entry PyProof.Rows.slot_tuple_getitem ht.typeIs entry_tuple_getitem ?_ (args_tuple_getitem _ _)))
  show wpAny _ _ (Builtin.Tuple.tupleItemsOf (.ref t) >>= _) _ _ s
  refine wpAny_bind (tupleItemsOf_ ht (wpAny_bind (wpAny_typeOf hT ?_)))
  rw [if_pos (by decide)]
  refine wpAny_bind (rev_applied hs pk ?_)
  have hno : ¬ ((((items.size : Int) - 1) == 0 && (-1 : Int) == 1 && items.size == items.size) = true) := by
    rw [show ((-1 : Int) == 1) = false from rfl]; simp
  show wpAny _ _ (if (((items.size : Int) - 1) == 0 && (-1 : Int) == 1 && items.size == items.size) = true then _ else _) _ _ s
  rw [if_neg hno, rev_pick]
  first
    | exact wpAny_bind (m := Builtin.Tuple.tupleExact _) (wpAny_newObj_type (wpAny_pure ⟨_, rfl, wpAny_pure h⟩) hok)
    | exact wpAny_bind (m := Builtin.Tuple.tupleExact _) (wpAny_newObj_type (wpAny_bind (wpAny_pure (wpAny_pure ⟨_, rfl, wpAny_pure h⟩))) hok)
    | exact wpAny_bind (wpAny_bind (m := Builtin.Tuple.tupleExact _) (wpAny_newObj_type (wpAny_pure (wpAny_pure ⟨_, rfl, wpAny_pure h⟩)) hok))
    | exact wpAny_bind (wpAny_bind (m := Builtin.Tuple.tupleExact _) (wpAny_newObj_type (wpAny_pure ⟨_, rfl, wpAny_pure h⟩) hok))
end
section
variable {X : Cx}
/-- x[::-1] -/
def tRevA (K : Frg) (te : TE) : TE := fun σ H Q => te σ H fun x H1 => ∃ a xs, x = .ref a ∧ ((SqL K H1 a xs ∧ ∀ p, H1 p = none → Q (.ref p) (upd H1 p (.lst xs.reverse))) ∨ (SqT K H1 a xs ∧ ∀ p, H1 p = none → Q (.ref p) (upd H1 p (.tup xs.reverse))))
theorem pe_revA {e : Expr} {te : TE} {k : Nat} {p1 p2 p3 pos : Pos} (he : PE X e te) : PE X (.Subscript e (.Slice none none (some (.UnaryOp .USub (.Constant (.int 1) k p1) p2)) p3) pos) (tRevA X.K te) := by
  refine ⟨fun pins s σ H Q I h => ?_⟩
  refine Subscript_ (thn (he.run pins s σ H _ I h) fun v s1 ⟨x, H1, I1, r1, a, xs, ex, q⟩ => ?_)
  subst ex
  cases r1
  have hst : PO X (some (.UnaryOp .USub (.Constant (.int 1) k p1) p2)) (tPart (tUn (rU fun i => .int (-i)) (L2.tC (.int 1)))) := po_some (pe_un un_neg pe_int)
  refine wpAny_Slice (thn (po_none.run pins s1 σ H1 (fun o H2 => o = none ∧ H2 = H1) I1 ⟨rfl, rfl⟩) fun vl s2 ⟨l, H2, I2, pl, el, e2⟩ => ?_)
  subst el e2
  cases pl
  refine thn (po_none.run pins s2 σ H2 (fun o H3 => o = none ∧ H3 = H2) I2 ⟨rfl, rfl⟩) fun vu s3 ⟨u, H3, I3, pu, eu, e3⟩ => ?_
  subst eu e3
  cases pu
  refine thn (hst.run pins s3 σ H3 (fun o H4 => o = some (-1) ∧ H4 = H3) I3 ⟨1, rfl, -1, rfl, rfl, rfl⟩) fun vs s4 ⟨o, H4, I4, ps, eo, e4⟩ => ?_
  subst eo e4
  have I5 : L2.Inv X pins σ H4 { s4 with heap := s4.heap.push { cls := .type "slice", data := .fields #[.none, .none, vs] } } := I4.kept (t' := s4.toks) fun b ob q => Heap.get?_push_of_some _ q
  show wpAny (model X.prog X.w) X.A (subscriptTail e (.Slice none none (some (.UnaryOp .USub (.Constant (.int 1) k p1) p2)) p3) (.ref a) (.ref s4.heap.objs.size)) (EP X pins σ Q) X.xe { s4 with heap := s4.heap.push { cls := .type "slice", data := .fields #[.none, .none, vs] } }
  rcases q with ⟨hx, q⟩ | ⟨hx, q⟩
  · obtain ⟨its, r, ht, hz⟩ := I5.list hx
    have hlen := r.length
    refine tail_any (ops := [.ref a, .ref s4.heap.objs.size]) ht.isList.typeIs (PySem.slot_list_getitem.lookup) ?_ (by with_unfolding_all rfl)
    refine wpAny_getItem_list_slice ht.isList (Heap.IsSliceOf.new _ .none .none vs) .none .none ps (by decide) ?_ (by rw [List.size_toArray]; omega)
    rw [PySem.W.krv_pick]
    refine ⟨.ref _, _, I5.laid (t' := s4.toks) (o := .lst xs.reverse) (fun b ob q => Heap.get?_push_of_some _ q) (Nat.le_refl _) ?_, rfl, q _ (I5.hok.fresh (Nat.le_refl _))⟩
    exact ⟨by rw [List.length_reverse]; exact hz, _, 0, r.reverse, Heap.get?_push_size _ rfl⟩
  · obtain ⟨its, r, ht, hz⟩ := I5.tuple hx
    have hlen := r.length
    refine tail_any (ops := [.ref a, .ref s4.heap.objs.size]) ht.typeIs (PyProof.Rows.slot_tuple_getitem.lookup) ?_ (by with_unfolding_all rfl)
    refine getItem_tup_rev ht (Heap.IsSliceOf.new _ .none .none vs) ps ?_ (by rw [List.size_toArray]; omega)
    refine ⟨.ref _, _, I5.laid (t' := s4.toks) (o := .tup xs.reverse) (fun b ob q => Heap.get?_push_of_some _ q) (Nat.le_refl _) ?_, rfl, q _ (I5.hok.fresh (Nat.le_refl _))⟩
    exact ⟨by rw [List.length_reverse]; exact hz, _, r.reverse, IsTup.new _ _⟩
end
section
variable {X : Cx} {C : Cc} {e : Expr}
def revF (d : D) : Option RV := match d with
  | .list xs => if immA xs = true then some (.ownL xs.reverse) else none
  | .tuple xs => if immA xs = true then some (.val (.tuple xs.reverse)) else none
  | _ => none
def eRev (m : OM) : EM := fun ρ => eb (m ρ) fun d => lift (revF d)
theorem RpA.rev {w : World} {K : Frg} {H : Hp} {F : Addr → Prop} : ∀ {xs : List V} {ds : List D}, RpA w K H F xs ds → RpA w K H F xs.reverse ds.reverse
  | [], _, h => by cases h; exact .nil
  | v :: vs, _, h => by
    cases h with
    | cons h1 h2 =>
      rw [List.reverse_cons, List.reverse_cons]
      exact RpA.append (RpA.rev h2) (.cons h1 .nil)
theorem DE.rev (k : Cok X C) {m : OM} {kk : Nat} {p1 p2 p3 pos : Pos} (h : DO X C e m) : DE X C (.Subscript e (.Slice none none (some (.UnaryOp .USub (.Constant (.int 1) kk p1) p2)) p3) pos) (eRev m) :=
  PE.imp (pe_revA h) fun σ H Q q => eb_O (m := m) (f := fun _ d => lift (revF d)) q rfl fun ρ F d s hy hx hr v H' F' g x => by
    obtain ⟨r, hr⟩ := hr
    cases hf : revF d with
    | none => simp [lift, hf] at hr
    | some rv =>
      have hy := hy rv (by simp [lift, hf])
      unfold revF at hf
      split at hf
      · rename_i ds
        split at hf
        case isFalse => cases hf
        rename_i hi
        cases hf
        cases x with
        | lst h1 h2 =>
          rename_i a xs
          refine ⟨a, xs, rfl, .inl ⟨k.K ▸ h1.sq, fun p hp => ?_⟩⟩
          have gp : Gr C σ ρ H' F' (upd H' p (.lst xs.reverse)) F' := .new g.sr hp
          exact hy _ _ F' (g.trans gp) ⟨⟨p, _, rfl, upd_same, g.sr.freshF hp, g.sr.fresh0 hp, gp.rpA (RpA.rev (RpA.imm _ _ hi h2))⟩, fun _ => ⟨p, rfl, by
            cases z : H p with
            | none => rfl
            | some o => have := g.le _ _ z; rw [hp] at this; cases this⟩⟩
      · rename_i ds
        split at hf
        case isFalse => cases hf
        rename_i hi
        cases hf
        cases x with
        | tup h1 h2 =>
          rename_i a xs
          refine ⟨a, xs, rfl, .inr ⟨k.K ▸ h1, fun p hp => ?_⟩⟩
          have gp : Gr C σ ρ H' F' (upd H' p (.tup xs.reverse)) F' := .new g.sr hp
          exact hy _ _ F' (g.trans gp) (RvNew.val (.tup (SqT.of upd_same) (gp.rpA (RpA.rev (RpA.imm _ _ hi h2)))))
      · cases hf
end
end TS
/-! T34: a register's own thing lent to an expression -/
namespace TS
open PySem PySem.Spec PyProof.Rows L2
section
variable {X : Cx} {C : Cc} {e : Expr} {mg : Str → Option Value} {σ : L2.St} {ρ : Regs} {H H' : Hp} {F F1 F' : Addr → Prop}
theorem Gr.lend {ρ1 : Regs} (s : SR C H F σ ρ) (g : Gr C σ ρ1 H F1 H' F') : Gr C σ ρ H F H' F := ⟨g.le, fun _ z => z, s.le g.le, s⟩
def borB (i : Nat) (m : BM) : BM := fun ρ => m (frz i ρ)
theorem DB.bor (i : Nat) {m : BM} (h : DB X C e m) : DB X C e (borB i m) := PT.imp h fun σ H Q q => by
  obtain ⟨ρ, F, r, s, hm, w⟩ := q
  obtain ⟨F1, k1, s1⟩ := s.frz i
  refine ⟨frz i ρ, F1, r, s1, hm, ?_⟩
  cases r with
  | inl b => exact fun H' F' g => w H' F (g.lend s)
  | inr x => exact fun cls d H' F' g ho => w cls d H' F (g.lend s) ho
end
end TS
/-! T35: < of tuples that are alike -/
namespace TS
open PySem PySem.Spec PyProof.Rows L2
section
variable {X : Cx} {C : Cc} {a b : Expr} {pos : Pos}
def ltTF (d e : D) : Option Bool := match d with
  | .tuple _ => if SeqAt.shaped d = true ∧ SeqAt.shaped e = true ∧ W.alike d e = true ∧ d.depth ≤ 60 then some (W.dataLt d e) else none
  | _ => none
theorem ltTF_some {d e : D} {b : Bool} (h : ltTF d e = some b) : d ≠ .none ∧ SeqAt.shaped d = true ∧ SeqAt.shaped e = true ∧ W.alike d e = true ∧ d.depth ≤ 60 ∧ b = W.dataLt d e := by
  unfold ltTF at h
  split at h
  · split at h
    · rename_i q
      cases h
      exact ⟨fun z => PyData.noConfusion z, q.1, q.2.1, q.2.2.1, q.2.2.2, rfl⟩
    · cases h
  · cases h
theorem op_ltTF (k : Cok X C) : OpR X (compareOp .Lt) (rInD2 C ltTF) := by
  intro pins s σ H x y v u Q I rx ry h
  obtain ⟨d, e, bb, hx, hy, hf, q⟩ := h
  obtain ⟨h0, h1, h2, h3, h4, rfl⟩ := ltTF_some hf
  obtain ⟨as, r1⟩ := Dp.reads I d x v (k.K ▸ Rp.dp d x (shaped_lay h1) hx) rx
  obtain ⟨bs, r2⟩ := Dp.reads I e y u (k.K ▸ Rp.dp e y (shaped_lay h2) hy) ry
  exact W.lt_data r1 r2 h3 h0 (by have := k.un; have := Nat.min_le_left d.depth e.depth; omega) ⟨.bl _, H, I, rfl, q⟩
theorem DB.ltT (k : Cok X C) {ma mb : OM} (ha : DO X C a ma) (hb : DO X C b mb) : DB X C (.Compare a [.Lt] [b] pos) (b2 ltTF ma mb) := DB.cmp (op_ltTF k) b2_rInD2 ha hb (nomark _)
end
end TS
/-! T36: x.extend(list or tuple) -/
namespace TS
open PySem PySem.Spec PyProof.Rows L2
theorem ext_tup (l : Addr) (items : Array Value) (n : Nat) (b : Addr) (items2 : Array Value) (n2 : Nat) (dd : Option Addr) (sl : Array (Option Value)) (hs0 : ¬(!items.isEmpty && Builtin.List.listTooLong (items.size + items2.size)) = true) (hs1 : items.size ≤ sizeLine) (hs2 : items.size + items2.size ≤ sizeLine + 1) :
    Meets (Builtin.«list.extend» ⟨[.ref l, .ref b], []⟩) (fun _ R s => s.heap.get? l = some { cls := .type "list", dict := none, data := .seq items n, slots := #[] } ∧ s.heap.get? b = some { cls := .type "tuple", dict := dd, data := .seq items2 n2, slots := sl } ∧ R (.ok (.ret Value.none)) { s with heap := s.heap.update l (Obj.mapSeq fun x => x ++ items2), toks := s.toks }) :=
  .of_wp fun prog w A R s h => by
    obtain ⟨hp, g, d, tk, os⟩ := s; obtain ⟨hl, hb, h⟩ := h; have f1 := PySem.AutoSeq1.idx_int; have f2 := PySem.AutoSeq1.sub_tuple_tuple; have f3 := PySem.AutoSeq1.sub_list_list; have f4 := PySem.AutoSeq1.sub_tuple_list; have f5 := PySem.AutoSeq1.sub_list_tuple;
    have hz' : (items ++ items2).size ≤ sizeLine + 1 := by rw [Array.size_append]; exact hs2
    wp_walk using (wpAny_updateSeq hl rfl (hz := hs1) (_hz' := hz')), PySem.AutoSeq1.wpAny_loadPart' hl, PySem.AutoSeq1.wpAny_loadPart' hb; exact ⟨_, rfl, h⟩
theorem ext_lst (l : Addr) (items : Array Value) (n : Nat) (b : Addr) (items2 : Array Value) (n2 : Nat) (sl : Array (Option Value)) (hs0 : ¬(!items.isEmpty && Builtin.List.listTooLong (items.size + items2.size)) = true) (hs1 : items.size ≤ sizeLine) (hs2 : items.size + items2.size ≤ sizeLine + 1) :
    Meets (Builtin.«list.extend» ⟨[.ref l, .ref b], []⟩) (fun _ R s => s.heap.get? l = some { cls := .type "list", dict := none, data := .seq items n, slots := #[] } ∧ s.heap.get? b = some { cls := .type "list", dict := none, data := .seq items2 n2, slots := sl } ∧ R (.ok (.ret Value.none)) { s with heap := s.heap.update l (Obj.mapSeq fun x => x ++ items2), toks := s.toks }) :=
  .of_wp fun prog w A R s h => by
    obtain ⟨hp, g, d, tk, os⟩ := s; obtain ⟨hl, hb, h⟩ := h; have f1 := PySem.AutoSeq1.idx_int; have f2 := PySem.AutoSeq1.sub_tuple_tuple; have f3 := PySem.AutoSeq1.sub_list_list; have f4 := PySem.AutoSeq1.sub_tuple_list; have f5 := PySem.AutoSeq1.sub_list_tuple;
    have hz' : (items ++ items2).size ≤ sizeLine + 1 := by rw [Array.size_append]; exact hs2
    wp_walk using (wpAny_updateSeq hl rfl (hz := hs1) (_hz' := hz')), PySem.AutoSeq1.wpAny_loadPart' hl, PySem.AutoSeq1.wpAny_loadPart' hb; exact ⟨_, rfl, h⟩
section
variable {X : Cx} {C : Cc} {p py apos cpos pos : Pos}
def rExtA (K : Frg) : V → List V → Hp → VK → Prop := fun x vs H Q => ∃ l b xs zs, x = .ref l ∧ vs = [.ref b] ∧ H l = some (.lst xs) ∧ (SqL K H b zs ∨ SqT K H b zs) ∧ xs.length + zs.length ≤ sizeLine ∧ Q .non (upd H l (.lst (xs ++ zs)))
theorem mt_extA : MtM X "list.extend" (rExtA X.K) := by
  intro pins s σ H x vs v us Q I rx rv h
  obtain ⟨l, b, xs, zs, rfl, rfl, hH, hB, hz, q⟩ := h
  cases rx
  obtain ⟨u, rfl, ru⟩ := rv.one
  cases ru
  obtain ⟨z, its, n, r, hl, e⟩ := I.lstM hH
  have fin : ∀ {its2 : List Value}, Vals zs its2 → its.toArray.size + its2.toArray.size ≤ sizeLine ∧ ¬ (!its.toArray.isEmpty && Builtin.List.listTooLong (its.toArray.size + its2.toArray.size)) = true := fun {its2} r2 => by
    have h1 := r.length
    have h2 := r2.length
    have hsz : its.toArray.size + its2.toArray.size ≤ sizeLine := by rw [List.size_toArray, List.size_toArray]; omega
    refine ⟨hsz, ?_⟩
    rw [L2.notLongL hsz, Bool.and_false]
    exact Bool.false_ne_true
  rcases hB with hB | hB
  · obtain ⟨its2, r2, p2, _⟩ := I.list hB
    obtain ⟨⟨cls, dd, data, sl⟩, n2, ho, hc, hd', hd⟩ := id p2
    simp only at hc hd hd'
    subst hc hd hd'
    obtain ⟨hsz, hlong⟩ := fin r2
    refine call_meets F.slot_list_extend ⟨_, e, rfl⟩ F.entry_list_extend (F.args_list_extend_2 _ _) (ext_lst l its.toArray n b its2.toArray n2 sl hlong (by omega) (by omega)) ⟨e, ho, ?_⟩
    refine ⟨.non, _, I.lset (its' := its ++ its2) hH e (by simp) (r.append r2) ?_, rfl, q⟩
    rw [List.length_append]; exact hz
  · obtain ⟨its2, r2, p2, _⟩ := I.tuple hB
    obtain ⟨⟨cls, dd, data, sl⟩, ho, hc, n2, hd⟩ := id p2
    simp only at hc hd
    subst hc hd
    obtain ⟨hsz, hlong⟩ := fin r2
    refine call_meets F.slot_list_extend ⟨_, e, rfl⟩ F.entry_list_extend (F.args_list_extend_2 _ _) (ext_tup l its.toArray n b its2.toArray n2 dd sl hlong (by omega) (by omega)) ⟨e, ho, ?_⟩
    refine ⟨.non, _, I.lset (its' := its ++ its2) hH e (by simp) (r.append r2) ?_, rfl, q⟩
    rw [List.length_append]; exact hz
/-- the items of a list or a tuple -/
def itsD : D → Option (List D)
  | .list xs => some xs
  | .tuple xs => some xs
  | _ => none
def sExt (i : Nat) (m : OM) : SM := fun ρ => match regL ρ i with
  | none => none
  | some ds => sb m (fun ρ d => match itsD d with
    | some xs => if ds.length + xs.length ≤ 1000 then some (.nx (ρ.set i (some (.ownL (ds ++ xs))))) else none
    | none => none) ρ
theorem DS.ext (k : Cok X C) {i : Nat} {x : Str} {ix : Expr} {m : OM} (hN : X.N[i]? = some x) (hv : Vis X.env.scope x) (hd : (x == ("__debug__" : Str)) = false) (hcd : (x == ("__classdict__" : Str)) = false) (h : DV X C ix m)
    (hbase : attributeBase (.Name x p) "extend" X.env (eval (.Name x p) X.env) = eval (.Name x p) X.env := by rfl)
    (hfew : ((backTo cpos (starEach [ix] X.env)).all (fun x => !x.1) && (backToKw cpos (keywordEach [] X.env)).all (fun x => x.1.isSome)
      && decide ([ix].length + ([] : List Keyword).length + (if ([] : List Keyword).isEmpty then 0 else 1) < 30)) = true := by rfl)
    (hline : (apos.endLine == cpos.line) = true := by rfl) (hs : starEach [ix] X.env = (false, eval ix X.env) :: starEach [] X.env := by rfl) (hplain : (backTo cpos (starEach [] X.env)).any (·.1) = false := by rfl)
    (hs2 : swapsWith (.Call (.Attribute (.Name x p) "extend" apos) [ix] [] cpos) none pos.line X.env = pure false := by rfl) :
    DS X C (.Expr (.Call (.Attribute (.Name x p) "extend" apos) [ix] [] cpos) pos) (sExt i m) :=
  PS.imp (ps_expr (pe_bm (T := "list") F.plainAttrs_list F.slot_list_extend F.type_list_extend (mt_extA (X := X)) (pe_var hN hv hd hcd) (pa_cons (X := X) h pa_nil hs) hbase hfew hline hs hplain) hs2) fun En σ H q => by
  obtain ⟨ρ, F, o, s, e, w⟩ := q
  unfold sExt at e
  cases hr : regL ρ i with
  | none => rw [hr] at e; cases e
  | some ds =>
    simp only [hr] at e
    obtain ⟨a, xs, ea, ow, hH, hf, h0, hk⟩ := s.regL hr
    refine ⟨_, ea, .inl ⟨rfl, xs, .inl (.inl hH)⟩, ?_⟩
    refine sb_V s e w fun d hm2 e2 vk H2 F2 g2 xk => ?_
    cases hi : itsD d with
    | none => simp only [hi] at e2; cases e2
    | some ys =>
      simp only [hi] at e2
      by_cases hl : ds.length + ys.length ≤ 1000
      case neg => rw [if_neg hl] at e2; cases e2
      rw [if_pos hl] at e2
      cases e2
      obtain ⟨a', xs', ea', ow2, hH2, hf2, h02, hk2⟩ := g2.sr.regL hr
      rw [ea] at ea'; cases ea'
      have fin : ∀ {zs : List V}, RpA C.w C.K H2 F2 zs ys → xs'.length + zs.length ≤ sizeLine ∧ tSt C X.mg (sExt i m) En σ H = tSt C X.mg (sExt i m) En σ H := fun {zs} rz => ⟨by rw [hk2.length, rz.length, sizeLine_eq]; omega, rfl⟩
      have fin2 : ∀ {zs : List V}, RpA C.w C.K H2 F2 zs ys → Kp H2 F2 (upd H2 a (.lst (xs' ++ zs))) F2 ∧ SR C (upd H2 a (.lst (xs' ++ zs))) F2 σ (ρ.set i (some (.ownL (ds ++ ys)))) := fun {zs} rz => by
        have kp : Keep F2 H2 (upd H2 a (.lst (xs' ++ zs))) := Keep.upd hH2 True.intro hf2
        obtain ⟨s3, k3⟩ := g2.sr.own_upd (o := .lst (xs' ++ zs)) (rv := .ownL (ds ++ ys)) ow2 rfl ⟨a, _, rfl, upd_same, hf2, h02, RpA.mono kp (fun _ z => z) _ _ (RpA.append hk2 rz)⟩
        exact ⟨k3, s3⟩
      cases d with
      | list es =>
        cases hi
        cases xk with
        | lst h1 h2 =>
          obtain ⟨k3, s3⟩ := fin2 h2
          exact ⟨a, _, xs', _, rfl, rfl, hH2, .inl (k.K ▸ h1.sq), (fin h2).1, w _ _ F2 (g2.kp.trans k3) s3⟩
      | tuple es =>
        cases hi
        cases xk with
        | tup h1 h2 =>
          obtain ⟨k3, s3⟩ := fin2 h2
          exact ⟨a, _, xs', _, rfl, rfl, hH2, .inr (k.K ▸ h1), (fin h2).1, w _ _ F2 (g2.kp.trans k3) s3⟩
      | _ => cases hi
theorem sExtL (i : Nat) (k : Cok X C) {e : Expr} {x : Str} {m : OM} (h : DV X C e m) (hN : X.N[i]? = some x := by rfl) (hv : Vis X.env.scope x := by first | exact .inl rfl | exact .inr (.inl rfl) | exact .inr (.inr rfl)) (hd : (x == ("__debug__" : Str)) = false := by decide) (hcd : (x == ("__classdict__" : Str)) = false := by decide)
    (hbase : attributeBase (.Name x p) "extend" X.env (eval (.Name x p) X.env) = eval (.Name x p) X.env := by rfl)
    (hfew : ((backTo cpos (starEach [e] X.env)).all (fun x => !x.1) && (backToKw cpos (keywordEach [] X.env)).all (fun x => x.1.isSome)
      && decide ([e].length + ([] : List Keyword).length + (if ([] : List Keyword).isEmpty then 0 else 1) < 30)) = true := by rfl)
    (hline : (apos.endLine == cpos.line) = true := by rfl) (hs : starEach [e] X.env = (false, eval e X.env) :: starEach [] X.env := by rfl) (hplain : (backTo cpos (starEach [] X.env)).any (·.1) = false := by rfl)
    (hs2 : swapsWith (.Call (.Attribute (.Name x p) "extend" apos) [e] [] cpos) none pos.line X.env = pure false := by rfl) :
    DS X C (.Expr (.Call (.Attribute (.Name x p) "extend" apos) [e] [] cpos) pos) (sExt i m) := DS.ext k hN hv hd hcd h hbase hfew hline hs hplain hs2
end
end TS
/-! T37: d.get(k, x); int(x) -/
namespace TS
open PySem PySem.Spec PyProof.Rows L2
section
variable {X : Cx} {C : Cc} {e o i j : Expr} {p apos cpos pos : Pos} {l : LM}
def tDGet (C : Cc) (td ty tz : TE) : TE := fun σ H Q => td σ H fun x H1 => (∃ a es ep kvs F, x = .ref a ∧ H1 a = some (dicO C.w a es ep) ∧ RpK C.w C.K H1 F es kvs) ∧ tCons ty (tCons tz tNil) σ H1 fun vs H2 => ∃ a b z es ep kvs k dk F, x = .ref a ∧ H2 a = some (dicO C.w a es ep) ∧ RpK C.w C.K H2 F es kvs ∧ vs = [.ref b, z] ∧ Rp C.w C.K H2 F (.ref b) dk ∧ kOf dk = some k ∧ Q ((eFind es k).getD z) H2
theorem pe_dgetO (k : Cok X C) {td ty tz : TE} (ho : PE X o td) (hi : PE X i ty) (hj : PE X j tz)
    (hbase : attributeBase o "get" X.env (eval o X.env) = eval o X.env := by rfl)
    (hfew : ((backTo cpos (starEach [i, j] X.env)).all (fun x => !x.1) && (backToKw cpos (keywordEach [] X.env)).all (fun x => x.1.isSome)
      && decide ([i, j].length + ([] : List Keyword).length + (if ([] : List Keyword).isEmpty then 0 else 1) < 30)) = true := by rfl)
    (hline : (apos.endLine == cpos.line) = true := by rfl) (hs : starEach [i, j] X.env = (false, eval i X.env) :: starEach [j] X.env := by rfl) (hs2 : starEach [j] X.env = (false, eval j X.env) :: starEach [] X.env := by rfl) (hplain : (backTo cpos (starEach [j] X.env)).any (·.1) = false := by rfl) :
    PE X (.Call (.Attribute o "get" apos) [i, j] [] cpos) (tDGet C td ty tz) := by
  refine ⟨fun pins s σ H Q I h => ?_⟩
  refine wpAny_Call_method_late hbase hfew hline rfl (thn (ho.run pins s σ H _ I h) fun v s1 ⟨x, H1, I1, r1, ⟨a, es, ep, kvs, F, ex, hH, hk⟩, q1⟩ => ?_)
  subst ex
  obtain rfl : v = Value.ref a := r1
  rw [k.w] at hH
  rw [k.w, k.K] at hk
  obtain ⟨z1, z2, us, z3, z4⟩ := dic_of I1 hH hk
  refine ⟨"dict", "dict.get", PySem.F.plainAttrs_dict, PySem.F.slot_dict_get, PySem.F.type_dict_get, z4.typeIs, dictOfH_noDict z4, ?_⟩
  have hA := (pa_cons (X := X) hi (pa_cons (X := X) hj pa_nil hs2) hs).run cpos pins s1 σ H1 _ I1 q1
  rw [hs] at hA ⊢
  refine Calls.callWith_builtin (by show (false || (backTo cpos (starEach [j] X.env)).any (·.1)) = false; rw [hplain] <;> rfl) (Calls.evalArgs_plain ?_)
  refine thn hA fun us2 s2 ⟨vs, H2, I2, r2, a', b, z, es2, ep2, kvs2, kk, dk, F2, ea, hH2, hk2, ey, xb, hko, q2⟩ => ?_
  cases ea
  subst ey
  cases r2 with
  | cons ru rn =>
    obtain ⟨uz, rfl, rz⟩ := L2.Vals.one rn
    · cases ru
      rw [k.w] at hH2
      rw [k.w, k.K] at hk2 xb
      obtain ⟨z1, z2, us, z3, z4⟩ := dic_of I2 hH2 hk2
      refine call_meetsIn PySem.F.slot_dict_get z4.typeIs PySem.F.entry_dict_get (PySem.F.args_dict_get_3 _ _ _) (PySem.meetsH_dict_get_default (nestedKind X.prog X.w) a b z1 uz) ⟨k.room, kk, _, key_is I2 hko xb, z4, ?_⟩
      rcases withV_at (k := kk) z3 with ⟨n1, n2⟩ | ⟨v', u', b', n1, n2, n3⟩
      · rw [n2]
        rw [n1] at q2
        exact ⟨z, H2, I2.tok _, rz, q2⟩
      · rw [n2]
        rw [n1] at q2
        exact ⟨v', H2, I2.tok _, n3, q2⟩
/-- d.get(k, x) -/
def getF (d e : D) (z : D) : Option D := match d with
  | .dict kvs => match kOf e with
    | some k => some ((dFind kvs k).getD z)
    | none => none
  | _ => none
def isDict : D → Bool
  | .dict _ => true
  | _ => false
def oGet (ma mb mc : OM) : OM := fun ρ => eb (ma ρ) fun x => if isDict x = true then eb (mb ρ) fun y => eb (mc ρ) fun z => lift (getF x y z) else none
theorem DO.get (k : Cok X C) {ma mb mc : OM} (ha : DO X C o ma) (hb : DO X C i mb) (hc : DO X C j mc)
    (hbase : attributeBase o "get" X.env (eval o X.env) = eval o X.env := by rfl)
    (hfew : ((backTo cpos (starEach [i, j] X.env)).all (fun x => !x.1) && (backToKw cpos (keywordEach [] X.env)).all (fun x => x.1.isSome)
      && decide ([i, j].length + ([] : List Keyword).length + (if ([] : List Keyword).isEmpty then 0 else 1) < 30)) = true := by rfl)
    (hline : (apos.endLine == cpos.line) = true := by rfl) (hs : starEach [i, j] X.env = (false, eval i X.env) :: starEach [j] X.env := by rfl) (hs2 : starEach [j] X.env = (false, eval j X.env) :: starEach [] X.env := by rfl) (hplain : (backTo cpos (starEach [j] X.env)).any (·.1) = false := by rfl) :
    DO X C (.Call (.Attribute o "get" apos) [i, j] [] cpos) (oGet ma mb mc) := PE.imp (pe_dgetO k ha hb hc hbase hfew hline hs hs2 hplain) fun σ H Q q => by
  refine eb_O (m := ma) (f := fun ρ x => if isDict x = true then eb (mb ρ) fun y => eb (mc ρ) fun z => lift (getF x y z) else none) q rfl fun ρ F d s hy hx hr v H1 F1 g x => ?_
  obtain ⟨r, hr⟩ := hr
  by_cases hdd : isDict d = true
  case neg => rw [if_neg hdd] at hr; cases hr
  simp only [if_pos hdd] at hy hx hr
  cases hb : mb ρ with
  | none => rw [hb] at hr; cases hr
  | some sb =>
    rw [hb] at hy hx hr
    cases d with
    | dict kvs =>
      cases x with
      | dic h1 h2 h3 =>
        refine ⟨⟨_, _, _, kvs, All, rfl, h1, h3⟩, ρ, F1, sb, g.sr, hb, ?_⟩
        cases sb with
        | inr z => exact (hx z rfl).step g
        | inl y =>
          intro u H2 F2 g2 xu
          cases hc : mc ρ with
          | none => rw [hc] at hr; cases hr
          | some sc =>
            refine ⟨ρ, F2, sc, g2.sr, hc, ?_⟩
            rw [hc] at hy hx hr
            cases sc with
            | inr z => exact (hx z rfl).step (g.trans g2)
            | inl z =>
              intro uz H3 F3 g3 xz
              cases hk : kOf y with
              | none => simp [eb, lift, getF, hk] at hr
              | some kk =>
                obtain ⟨b, rfl⟩ := xu.key_ref hk
                have g13 := g2.trans g3
                have e1 := g13.le _ _ h1
                have k3 : RpK C.w C.K H3 All _ kvs := RpK.mono g13.le.keep (fun _ z => z) _ _ h3
                refine ⟨_, b, uz, _, _, kvs, kk, y, All, rfl, e1, k3, rfl, g3.all xu, hk, ?_⟩
                have hy := hy ((dFind kvs kk).getD z) (by simp [eb, lift, getF, hk])
                refine hy _ H3 F3 (g.trans g13) ?_
                rcases k3.find (k := kk) with ⟨y1, y2⟩ | ⟨v2, d2, y1, y2, y3⟩
                · rw [y1, y2]; exact xz
                · rw [y1, y2]; exact y3
    | _ => cases hdd
def intF1 : List D → Option RV
  | [.int i] => some (.val (.int i))
  | [.bool k] => some (.val (.int (if k then 1 else 0)))
  | _ => none
theorem cr_int1 : CROk C (fun xs H Q => (∃ i, xs = [.int i] ∧ Q (.int i) H) ∨ ∃ k, xs = [.bl k] ∧ Q (.int (if k then 1 else 0)) H) intF1 := by
  intro σ ρ H F vs ds rv Q s hx hf q
  unfold intF1 at hf
  split at hf
  · cases hf
    obtain ⟨v, rfl, h⟩ := hx.one
    cases h.int_inv
    exact .inl ⟨_, rfl, q _ _ F (.refl s) ⟨.int _, fun z => by cases z⟩⟩
  · cases hf
    obtain ⟨v, rfl, h⟩ := hx.one
    cases h
    exact .inr ⟨_, rfl, q _ _ F (.refl s) ⟨.int _, fun z => by cases z⟩⟩
  · cases hf
theorem bInt (k : Cok X C) (hm : X.mg "int" = none) (ha : DL X C [e] l) (hg : Gl X "int" := by rfl) (he : starEach [e] X.env = (false, eval e X.env) :: starEach [] X.env := by rfl) (hpl : (backTo pos (starEach [] X.env)).any (·.1) = false := by rfl) : DE X C (.Call (.Name "int" p) [e] [] pos) (eL intF1 l) :=
  DE.callT call_int1 cr_int1 hg hm (by decide +kernel) ha (by decide) (by decide) he hpl
end
end TS
/-! T38: min of a list of data that are alike -/
namespace TS
open PySem PySem.Spec PyProof.Rows L2
section
variable {X : Cx} {C : Cc} {e : Expr} {pos p : Pos} {l : LM}
def noNone : D → Bool
  | .none => false
  | _ => true
def alkB (ds : List D) : Prop := (ds.all fun d => ds.all fun e => W.alike d e) = true ∧ ds.all noNone = true
instance (ds : List D) : Decidable (alkB ds) := by unfold alkB; infer_instance
def minG : List D → Option RV
  | [.list (x :: xs)] => if immA (x :: xs) = true ∧ alkB (x :: xs) ∧ PyData.depthAll (x :: xs) ≤ 60 ∧ SeqAt.shaped (.list (x :: xs)) = true then some (.val (W.minD x xs)) else none
  | _ => none
def rMinG (C : Cc) : List V → Hp → VK → Prop := fun vs H Q => ∃ v x xs, vs = [v] ∧ Rp C.w C.K H All v (.list (x :: xs)) ∧ immA (x :: xs) = true ∧ alkB (x :: xs) ∧ PyData.depthAll (x :: xs) ≤ 60 ∧ SeqAt.shaped (.list (x :: xs)) = true ∧ ∀ u, Rp C.w C.K H All u (W.minD x xs) → Q u H
theorem minD_mem (x : D) (xs : List D) : W.minD x xs ∈ x :: xs := by
  unfold W.minD
  suffices ∀ (ys : List D) (a : D), a ∈ x :: xs → (∀ y ∈ ys, y ∈ x :: xs) → ys.foldl (fun a y => if W.dataLt y a = true then y else a) a ∈ x :: xs from this xs x (by simp) (fun y hy => by simp [hy])
  intro ys
  induction ys with
  | nil => exact fun a h _ => h
  | cons y ys ih =>
    intro a ha hy
    rw [List.foldl_cons]
    refine ih _ ?_ fun z hz => hy z (by simp [hz])
    split
    · exact hy y (by simp)
    · exact ha
theorem op_minG (k : Cok X C) (hc : X.calm = true) : CallR X (.builtin "min") (rMinG C) := by
  intro pins s σ H vs us Q I r h
  obtain ⟨v, x, xs, rfl, hx, him, hal, hd, hs, q⟩ := h
  obtain ⟨u, rfl, ru⟩ := L2.Vals.one r
  have hx' := hx
  cases hx with
  | lst h1 h2 =>
    rename_i a ys
    cases ru
    obtain ⟨its, rv, hl, _⟩ := I.list (k.K ▸ h1.sq)
    have hlay : PyData.canLayAll0 (x :: xs) = true := by simpa [PyData.canLay0] using shaped_lay hs
    obtain ⟨as, hr⟩ := Dp.readsAll I (x :: xs) ys its (k.K ▸ RpA.dp _ _ hlay h2) rv
    have hA : W.AlikeAll (x :: xs) := ⟨fun d hd e he => List.all_eq_true.mp (List.all_eq_true.mp hal.1 d hd) e he, fun d hd => by
      have := List.all_eq_true.mp hal.2 d hd
      intro z; subst z; cases this⟩
    refine W.min_list_data (I.ok.hd hc) hl.isList (by simpa using hr) hA (by have := k.un; omega) fun i v h' tk bs hv hrd hk => ?_
    have hv : its[i]? = some v := by simpa using hv
    obtain ⟨y, hy, ry⟩ : ∃ y, ys[i]? = some y ∧ RelV y v := by
      have : ∀ {ys : List V} {us : List Value} {i : Nat} {v : Value}, Vals ys us → us[i]? = some v → ∃ y, ys[i]? = some y ∧ RelV y v := fun {ys us i v} r => by
        induction r generalizing i with
        | nil => intro h; simp at h
        | cons r1 r2 ih =>
          intro h
          cases i with
          | zero => simp at h; subst h; exact ⟨_, rfl, r1⟩
          | succ i => simp at h; obtain ⟨y, h1, h2⟩ := ih h; exact ⟨y, by simpa using h1, h2⟩
      exact this rv hv
    have I1 : L2.Inv X pins σ H { s with heap := h', toks := tk } := I.kept hk
    obtain ⟨d, hd2, hrp⟩ : ∃ d, d ∈ x :: xs ∧ Rp C.w C.K H All y d := by
      have hlen := h2.length
      have hi : i < (x :: xs).length := by
        have := (List.getElem?_eq_some_iff.mp hy).1
        omega
      obtain ⟨z, e1, e2⟩ := h2.get (List.getElem?_eq_getElem hi)
      rw [hy] at e1; cases e1
      exact ⟨_, List.getElem_mem hi, e2⟩
    have hdl : PyData.canLay0 d = true := by
      have : ∀ ds : List D, PyData.canLayAll0 ds = true → ∀ d ∈ ds, PyData.canLay0 d = true := fun ds => by
        induction ds with
        | nil => intro _ d h; cases h
        | cons e ds ih =>
          intro h d hd
          simp only [PyData.canLayAll0, Bool.and_eq_true] at h
          rcases List.mem_cons.mp hd with rfl | z
          · exact h.1
          · exact ih h.2 d z
      exact this _ hlay d hd2
    obtain ⟨bs2, r2⟩ := Dp.reads I1 d y v (k.K ▸ Rp.dp d y hdl hrp) ry
    have ed : d = W.minD x xs := W.alike_unique d (W.minD x xs) v bs2 bs (hA.1 d hd2 _ (minD_mem x xs)) r2 hrd
    exact ⟨y, H, I1, ry, q y (ed ▸ hrp)⟩
theorem cr_minG : CROk C (rMinG C) minG := by
  intro σ ρ H F vs ds rv Q s hx hf q
  unfold minG at hf
  split at hf
  · split at hf
    · rename_i x xs hc
      cases hf
      obtain ⟨v, rfl, h⟩ := hx.one
      refine ⟨v, x, xs, rfl, h, hc.1, hc.2.1, hc.2.2.1, hc.2.2.2, fun u hu => q u H F (.refl s) ⟨?_, fun z => by cases z⟩⟩
      exact Rp.imm _ _ (immA_all hc.1 _ (minD_mem x xs)) hu
    · cases hf
  · cases hf
theorem bMinG (k : Cok X C) (hc : X.calm = true) (hm : X.mg "min" = none) (ha : DL X C [e] l) (hg : Gl X "min" := by rfl) (he : starEach [e] X.env = (false, eval e X.env) :: starEach [] X.env := by rfl) (hpl : (backTo pos (starEach [] X.env)).any (·.1) = false := by rfl) : DE X C (.Call (.Name "min" p) [e] [] pos) (eL minG l) :=
  DE.callB (op_minG k hc) cr_minG hg hm (by decide) ha (by decide) (by decide) he hpl
end
end TS
/-! T39: sorted(d.items()) -/
namespace TS
open PySem PySem.Spec PyProof.Rows L2
section
variable {X : Cx} {C : Cc} {e : Expr} {pos p : Pos} {l : LM}
def pairsD (kvs : List (D × D)) : List D := kvs.map fun e => .tuple [e.1, e.2]
def rSortItems (C : Cc) : List V → Hp → VK → Prop := fun vs H Q => ∃ (p a : Addr) (es : List Ent) (ep : Nat) (kvs : List (D × D)), vs = [.ref p] ∧ H p = some (L2.DX.itemsO p a) ∧ H a = some (dicO C.w a es ep) ∧ RpK C.w C.K H All es kvs ∧ sortOk (pairsD kvs) = true ∧
  ∀ (H' : Hp) (l : Addr) (ys : List V), Le H H' → H l = none → H' l = some (.lst ys) → RpA C.w C.K H' All ys (sortD (pairsD kvs)) → Q (.ref l) H'
theorem RpK.at {w : World} {K : Frg} {H : Hp} {F : Addr → Prop} : ∀ {es : List Ent} {kvs : List (D × D)} {j : Nat} {e : Ent}, RpK w K H F es kvs → es[j]? = some e → ∃ kv, kvs[j]? = some kv ∧ Rp w K H F (.ref e.2.1) kv.1 ∧ Rp w K H F e.2.2 kv.2
  | _, _, _, _, .nil, h => by simp at h
  | _, _, 0, _, .cons h1 h2 h3 h4 h5 h6, h => by simp at h; subst h; exact ⟨_, rfl, h4, h5⟩
  | _, _, j + 1, _, .cons h1 h2 h3 h4 h5 h6, h => by
    simp at h
    obtain ⟨kv, q1, q2⟩ := RpK.at h6 h
    exact ⟨kv, by simpa using q1, q2⟩
theorem each_idx {α β : Type} {R : α → β → Prop} : ∀ {us : List α} {bs : List β}, us.length = bs.length → (∀ (j : Nat) u b, us[j]? = some u → bs[j]? = some b → R u b) → W.EachIs R us bs
  | [], [], _, _ => .nil
  | [], _ :: _, h, _ => by cases h
  | _ :: _, [], h, _ => by cases h
  | u :: us, b :: bs, h, q => .cons (q 0 u b rfl rfl) (each_idx (by simpa using h) fun j u' b' h1 h2 => q (j + 1) u' b' (by simpa using h1) (by simpa using h2))
theorem vals_at {ys : List V} {us : List Value} (r : Vals ys us) : ∀ {i : Nat} {v : Value}, us[i]? = some v → ∃ y, ys[i]? = some y ∧ RelV y v := by
  induction r with
  | nil => intro i v h; simp at h
  | cons r1 r2 ih =>
    intro i v h
    cases i with
    | zero => simp at h; subst h; exact ⟨_, rfl, r1⟩
    | succ i => simp at h; obtain ⟨y, h1, h2⟩ := ih h; exact ⟨y, by simpa using h1, h2⟩
theorem op_sortItems (k : Cok X C) (hc : X.calm = true) : CallR X (.builtin "sorted") (rSortItems C) := by
  intro pins s σ H xs us Q I r h
  obtain ⟨p, a, es, ep, kvs, rfl, hp, ha, hk0, hok, q⟩ := h
  obtain rfl := Vals.ref1 r
  obtain ⟨h1, h2, h3, h4, h5, h6⟩ := sortOk_of hok
  have view : s.heap.IsItemsView p a := (show ObjOk X.prog X.w H s.heap p (L2.DX.itemsO p a) from I.hok p _ hp).1
  rw [k.w] at ha
  have lk := hk0.length
  obtain ⟨⟨z1, z2, z3, o, des, vals, ho, hx, hdt, hv, hz⟩, _⟩ := I.hok a _ ha
  have hvl : vals.length = es.length := by have := hv.length; simpa using this.symm
  have hds : des.size = es.length := by
    have := congrArg List.length hz
    rw [List.length_zipWith, hvl] at this
    simpa using this
  have hh : X.A.handled = none := I.ok.hd hc
  refine DT.sortedI (es := des) (ep := ep) hh view ⟨o, ho, hx, hdt⟩ (by rw [hds]; exact z2) fun h' tk as hk hlt hl hG => ?_
  have lak : as.length = es.length := by omega
  have nd : as.Nodup := List.Pairwise.imp (fun h => Nat.ne_of_lt h) hG.rise
  have pr : ∀ (j : Nat) (b : Addr), as[j]? = some b → ∃ (e : Ent) (uv : Value), es[j]? = some e ∧ RelV e.2.2 uv ∧ h'.get? b = some { cls := .type "tuple", data := .seq #[Value.ref e.2.1, uv] } := by
    intro j b hj
    obtain ⟨en, he, hg⟩ := hG.pairs j b hj
    have hjl : j < es.length := by have := (List.getElem?_eq_some_iff.mp hj).1; omega
    have e2 : des.toList[j]? = some ⟨(es[j]).1.hash X.w, .ref (es[j]).2.1, vals[j]'(by omega)⟩ := by
      rw [hz, List.getElem?_zipWith, List.getElem?_eq_getElem hjl, List.getElem?_eq_getElem (by omega : j < vals.length)]
    rw [Array.getElem?_toList, he] at e2
    cases e2
    exact ⟨es[j], vals[j]'(by omega), List.getElem?_eq_getElem hjl, by
      obtain ⟨y, q1, q2⟩ := vals_at hv (i := j) (v := vals[j]'(by omega)) (List.getElem?_eq_getElem (by omega))
      rw [List.getElem?_map, List.getElem?_eq_getElem hjl] at q1
      cases q1; exact q2, hg⟩
  have hob : (h'.push { cls := .type "list", data := .seq (as.map Value.ref).toArray }).get? h'.objs.size = some (seqObj "list" (as.map Value.ref).toArray 0) := Heap.get?_push_size _ rfl
  have kb : ∀ b o, s.heap.get? b = some o → (h'.push { cls := .type "list", data := .seq (as.map Value.ref).toArray }).get? b = some o := fun b o e => Heap.get?_push_of_some _ (hk b o e)
  have ne0 : ∀ b o, h'.get? b = some o → b ≠ h'.objs.size := fun b o e => Nat.ne_of_lt (Heap.lt_size e)
  have ka : ∀ b o, h'.get? b = some o → (h'.push { cls := .type "list", data := .seq (as.map Value.ref).toArray }).get? b = some o := fun b o e => Heap.get?_push_of_some _ e
  generalize h'.push { cls := .type "list", data := .seq (as.map Value.ref).toArray } = h2' at hob kb ka ⊢
  have lpd : (pairsD kvs).length = as.length := by rw [pairsD, List.length_map]; omega
  have er : W.EachIs (fun u (p : V × D) => ∃ as, Reads h2' u p.2 as ∧ h'.objs.size ∉ as) (as.map Value.ref) ((as.map V.ref).zip (pairsD kvs)) := each_idx (by rw [List.length_zip, List.length_map, List.length_map, lpd, Nat.min_self]) fun j u b hu hb => by
    rw [List.getElem?_map] at hu
    cases haj : as[j]? with
    | none => rw [haj] at hu; cases hu
    | some t =>
      rw [haj] at hu
      cases hu
      obtain ⟨e, uv, he, rv, hg⟩ := pr j t haj
      obtain ⟨kv, hkv, r1, r2⟩ := RpK.at hk0 he
      have hb2 := (List.getElem?_zip_eq_some.mp hb).2
      rw [pairsD, List.getElem?_map, hkv] at hb2
      have eb : b.2 = .tuple [kv.1, kv.2] := (Option.some.inj hb2).symm
      have hmem : b.2 ∈ pairsD kvs := by
        rw [eb]; exact List.mem_map.mpr ⟨kv, List.mem_of_getElem? hkv, rfl⟩
      have hlay := h6 _ hmem
      rw [eb] at hlay
      simp only [PyData.canLay0, PyData.canLayAll0, Bool.and_true, Bool.and_eq_true] at hlay
      obtain ⟨a1, q1⟩ := Dp.reads I kv.1 _ _ (k.K ▸ Rp.dp kv.1 _ hlay.1 r1) (show RelV (.ref e.2.1) (.ref e.2.1) from rfl)
      obtain ⟨a2, q2⟩ := Dp.reads I kv.2 _ _ (k.K ▸ Rp.dp kv.2 _ hlay.2 r2) rv
      have rd : Reads h2' (.ref t) (.tuple [kv.1, kv.2]) (a1 ++ (a2 ++ [])) := .tuple (ka _ _ hg) rfl rfl (.cons (Reads.keeps kb q1) (.cons (Reads.keeps kb q2) .nil))
      refine ⟨_, eb ▸ rd, ?_⟩
      rw [reads_imm (.tuple [kv.1, kv.2]) _ _ (by rw [← eb]; exact immA_all h1 _ hmem) rd]
      exact List.not_mem_nil
  have hlv : (as.map V.ref).length = (pairsD kvs).length := by rw [List.length_map, lpd]
  have rvs : Vals (as.map V.ref) (as.map Value.ref) := vals_maps V.ref Value.ref as fun _ _ => rfl
  have I1 : L2.Inv X pins σ H { s with heap := h', toks := tk } := I.kept hk
  refine W.list_sort_data (prog := X.prog) (w := X.w) (A := X.A.in1) (E := X.xe) (s := { s with heap := h2', toks := tk }) (a := h'.objs.size) (n := 0) (vs := as.map Value.ref) (bs := (as.map V.ref).zip (pairsD kvs)) (enc := (·.2)) (R := fun u (p : V × D) => RelV p.1 u)
    (Q := fun _ s' => EP X pins σ Q (.ref h'.objs.size) s') hob (each_zip rvs hlv) er (by rw [zip_snd hlv]; exact h2) (by rw [zip_snd hlv]; exact h3)
    (by rw [List.length_zip, hlv, Nat.min_self, sizeLine_eq]; omega) (fun b hb => by
      have := h4 b.2 (List.of_mem_zip hb).2
      have := k.un
      show X.A.units + 1 + 1 + b.2.depth < cLine
      omega) (fun out hlo ho => ?_)
  have hvv := vals_each ho
  obtain ⟨c, hcc⟩ := sortedHeap_at (h := h2') (a := h'.objs.size) (vs := as.map Value.ref) (n := 0) (out := out.toArray) hob
  have kF : ∀ b o, b ≠ h'.objs.size → h2'.get? b = some o → (sortedHeap h2' h'.objs.size (as.map Value.ref) out.toArray).get? b = some o := fun b o hb e => (PyProof.Rows.sortedHeap_old hb (Heap.lt_size e)).trans e
  have kS : ∀ b o, s.heap.get? b = some o → (sortedHeap h2' h'.objs.size (as.map Value.ref) out.toArray).get? b = some o := fun b o e => kF b o (ne0 _ _ (hk b o e)) (kb b o e)
  have hn0 : H h'.objs.size = none := I.hok.fresh (Nat.le_of_lt hlt)
  have ln : (((as.map V.ref).zip (pairsD kvs)).mergeSort (W.dataLe false (·.2))).length ≤ sizeLine := by
    rw [List.length_mergeSort, List.length_zip, hlv, Nat.min_self, sizeLine_eq]; omega
  have J1 : L2.Inv X pins σ H { s with heap := sortedHeap h2' h'.objs.size (as.map Value.ref) out.toArray, toks := tk } := I.kept (t' := tk) kS
  have J2 : L2.Inv X pins σ (upd H h'.objs.size (.lst ((((as.map V.ref).zip (pairsD kvs)).mergeSort (W.dataLe false (·.2))).map (·.1)))) { s with heap := sortedHeap h2' h'.objs.size (as.map Value.ref) out.toArray, toks := tk } :=
    J1.take (h' := sortedHeap h2' h'.objs.size (as.map Value.ref) out.toArray) (t' := tk) (fun b ob _ e => e) (I.fpOk (Nat.le_of_lt hlt) hn0) ⟨by rw [List.length_map]; exact ln, out, c, hvv, hcc⟩
  obtain ⟨H2, J3, g, qt⟩ := L2.DX.takeT (P := fun b vs => ∃ (j : Nat) (e : Ent), as[j]? = some b ∧ es[j]? = some e ∧ vs = [.ref e.2.1, e.2.2]) I as _ J2 nd fun b hb => by
    obtain ⟨j, hj⟩ := List.mem_iff_getElem?.mp hb
    obtain ⟨e, uv, he, rv, hg⟩ := pr j b hj
    have hbl : s.heap.objs.size ≤ b := Nat.le_of_lt (hG.above b hb)
    refine ⟨hbl, ?_, [.ref e.2.1, e.2.2], ⟨j, e, hj, he, rfl⟩, fun H3 => ⟨(by rw [sizeLine_eq]; show 2 ≤ 16777216; omega), [Value.ref e.2.1, uv], .cons rfl (.cons rv .nil), ⟨_, kF _ _ (ne0 _ _ hg) (ka _ _ hg), rfl, 0, rfl⟩⟩⟩
    rw [upd_ne (ne0 _ _ hg)]
    exact I.hok.fresh hbl
  have gr : ∀ b o, H b = some o → H2 b = some o := fun b o e => g b o (by rw [upd_ne (ne_of_none e hn0)]; exact e)
  have hps : ∀ p ∈ ((as.map V.ref).zip (pairsD kvs)).mergeSort (W.dataLe false (·.2)), Rp C.w C.K H2 All p.1 p.2 := fun p hp => by
    obtain ⟨j, hj⟩ := List.mem_iff_getElem?.mp (List.mem_mergeSort.mp hp)
    obtain ⟨j1, j2⟩ := List.getElem?_zip_eq_some.mp hj
    rw [List.getElem?_map] at j1
    cases haj : as[j]? with
    | none => rw [haj] at j1; cases j1
    | some t =>
      rw [haj] at j1
      have e1 : V.ref t = p.1 := Option.some.inj j1
      obtain ⟨vs, ⟨i, e, i1, i2, ev⟩, hH⟩ := qt t (List.mem_of_getElem? haj)
      have eij : j = i := (List.getElem?_inj (List.getElem?_eq_some_iff.mp haj).1 nd).mp (haj.trans i1.symm)
      subst eij
      obtain ⟨kv, hkv, r1, r2⟩ := RpK.at hk0 i2
      rw [pairsD, List.getElem?_map, hkv] at j2
      have e2 : .tuple [kv.1, kv.2] = p.2 := Option.some.inj j2
      rw [← e1, ← e2]
      subst ev
      have kp : Keep All H H2 := Le.keep gr
      exact .tup (SqT.of hH) (.cons (Rp.mono kp (fun _ z => z) _ _ r1) (.cons (Rp.mono kp (fun _ z => z) _ _ r2) .nil))
  have hrp := RpA.of_zip hps
  rw [sorted_zip hlv] at hrp
  exact ⟨.ref h'.objs.size, H2, J3, rfl, q H2 _ _ gr hn0 (g _ _ upd_same) hrp⟩
end
end TS
/-! T40: sorted(d.items()), the expression -/
namespace TS
open PySem PySem.Spec PyProof.Rows L2
section
variable {X : Cx} {C : Cc} {o : Expr} {p apos cpos pos : Pos}
def tDItems (C : Cc) (td : TE) : TE := fun σ H Q => td σ H fun x H1 => ∃ a es ep kvs F, x = .ref a ∧ H1 a = some (dicO C.w a es ep) ∧ RpK C.w C.K H1 F es kvs ∧ ∀ p, H1 p = none → Q (.ref p) (upd H1 p (L2.DX.itemsO p a))
theorem pe_ditems (k : Cok X C) {td : TE} (ho : PE X o td) (hbase : attributeBase o "items" X.env (eval o X.env) = eval o X.env := by rfl) (hline : (apos.endLine == cpos.line) = true := by rfl) : PE X (.Call (.Attribute o "items" apos) [] [] cpos) (tDItems C td) := by
  refine ⟨fun pins s σ H Q I h => ?_⟩
  refine wpAny_Call_method0_late hbase hline (thn (ho.run pins s σ H _ I h) fun v s1 ⟨x, H1, I1, r1, a, es, ep, kvs, F, ex, hH, hk, q1⟩ => ?_)
  subst ex
  obtain rfl : v = Value.ref a := r1
  rw [k.w] at hH
  rw [k.w, k.K] at hk
  obtain ⟨z1, z2, us, z3, z4⟩ := dic_of I1 hH hk
  obtain ⟨_, ob, des, hob, hx, hdt, _, _⟩ := dicO_at I1.hok hH
  refine ⟨"dict", "dict.items", PySem.F.plainAttrs_dict, PySem.F.slot_dict_items, PySem.F.type_dict_items, z4.typeIs, dictOfH_noDict z4, Calls.callWith_builtin rfl (PySem.evalArgs_none (DT.callItems (es := des) (ep := ep) z1 ⟨ob, hob, hx, hdt⟩ ?_))⟩
  exact ⟨.ref s1.heap.objs.size, upd H1 s1.heap.objs.size (L2.DX.itemsO s1.heap.objs.size a), I1.laid (t' := s1.toks) (fun b u e => Heap.get?_push_of_some _ e) (Nat.le_refl _) (L2.DX.itemsO_ok (Heap.get?_push_size _ rfl)), rfl, q1 _ (I1.hok.fresh (Nat.le_refl _))⟩
def siF (d : D) : Option RV := match d with
  | .dict kvs => if sortOk (pairsD kvs) = true then some (.ownL (sortD (pairsD kvs))) else none
  | _ => none
def eSI (m : OM) : EM := fun ρ => eb (m ρ) fun d => lift (siF d)
theorem DE.sortItems (k : Cok X C) (hc : X.calm = true) {m : OM} (h : DO X C o m) (hm : X.mg "sorted" = none) (hg : Gl X "sorted" := by rfl)
    (hbase : attributeBase o "items" X.env (eval o X.env) = eval o X.env := by rfl) (hline : (apos.endLine == cpos.line) = true := by rfl)
    (he : starEach [.Call (.Attribute o "items" apos) [] [] cpos] X.env = (false, eval (.Call (.Attribute o "items" apos) [] [] cpos) X.env) :: starEach [] X.env := by rfl) (hpl : (backTo pos (starEach [] X.env)).any (·.1) = false := by rfl) :
    DE X C (.Call (.Name "sorted" p) [.Call (.Attribute o "items" apos) [] [] cpos] [] pos) (eSI m) :=
  PE.imp (pe_callB (op_sortItems k hc) hg hm boot_sorted (pa_cons (pe_ditems k h hbase hline) pa_nil he) (by decide) (by decide) he hpl) fun σ H Q q => by
    refine eb_O (m := m) (f := fun _ d => lift (siF d)) q rfl fun ρ F d s hy hx hr v H1 F1 g x => ?_
    obtain ⟨r, hr⟩ := hr
    cases hf : siF d with
    | none => rw [hf] at hr; cases hr
    | some rv =>
      have hy := hy rv (by rw [hf]; rfl)
      unfold siF at hf
      split at hf
      · split at hf
        · rename_i kvs hok
          cases hf
          cases x with
          | dic h1 h2 h3 =>
            rename_i a es ep
            refine ⟨a, es, ep, kvs, All, rfl, h1, h3, fun p hp => ?_⟩
            have gn : Gr C σ ρ H1 F1 (upd H1 p (L2.DX.itemsO p a)) F1 := .new g.sr hp
            refine ⟨p, a, es, ep, kvs, rfl, upd_same, gn.le _ _ h1, RpK.mono gn.le.keep (fun _ z => z) _ _ h3, hok, fun H' l ys le hl hll hr2 => ?_⟩
            have g2 : Gr C σ ρ (upd H1 p (L2.DX.itemsO p a)) F1 H' F1 := ⟨le, fun _ h => h, gn.sr.le le, gn.sr⟩
            have gg := (g.trans gn).trans g2
            have hi : immA (sortD (pairsD kvs)) = true := sortD_imm (sortOk_of hok).1
            have hl1 : H1 l = none := by
              cases q : H1 l with
              | none => rfl
              | some o => have := gn.le _ _ q; rw [hl] at this; cases this
            exact hy (.ref l) H' F1 gg ⟨⟨l, ys, rfl, hll, g.sr.freshF hl1, g.sr.fresh0 hl1, RpA.imm _ _ hi hr2⟩, fun _ => ⟨l, rfl, by
              cases q : H l with
              | none => rfl
              | some o => have := g.le _ _ q; rw [hl1] at this; cases this⟩⟩
        · cases hf
      · cases hf
end
end TS
namespace TS
open PySem PySem.Spec PyProof.Rows L2
def top (i : Nat) : Stmt := PySem.Challenge.pw_tornsheets_k06_kinds_of_pieces.main.body.getD i (.Pass ⟨0, 0, 0, 0⟩)
abbrev s_is_within : Stmt := top 8
abbrev s_is_field : Stmt := top 9
abbrev s_is_border : Stmt := top 10
abbrev s_fields_at : Stmt := top 11
abbrev s_rises : Stmt := top 12
abbrev s_borders_of : Stmt := top 13
abbrev s_lot_from : Stmt := top 15
abbrev s_parts_of : Stmt := top 14
abbrev s_is_sheet : Stmt := top 16
abbrev s_look : Stmt := top 17
abbrev s_is_torn : Stmt := top 18
abbrev s_look_torn : Stmt := top 19
abbrev s_hanging_of : Stmt := top 21
abbrev s_around : Stmt := top 22
abbrev s_is_whole_corner : Stmt := top 23
abbrev s_corners_at : Stmt := top 24
abbrev s_next_to : Stmt := top 25
abbrev s_run_of : Stmt := top 26
abbrev s_tear_at : Stmt := top 27
abbrev s_tears_of : Stmt := top 28
abbrev s_pricks_of : Stmt := top 29
abbrev s_pieces_of : Stmt := top 31
abbrev s_pieces : Stmt := top 32
abbrev s_is_piece : Stmt := top 33
abbrev s_moved : Stmt := top 34
abbrev s_kind_of : Stmt := top 35
abbrev s_kind : Stmt := top 36
abbrev s_kinds_of : Stmt := top 37
abbrev s_kinds : Stmt := top 38
abbrev s_first_row : Stmt := top 40
abbrev s_end_torn : Stmt := top 41
abbrev s_end : Stmt := top 42
abbrev s_end_kinds : Stmt := top 43
abbrev s_law_cell : Stmt := top 45
abbrev s_law_row : Stmt := top 46
abbrev s_law_sides : Stmt := top 47
abbrev s_law_joined : Stmt := top 48
abbrev s_law_inner : Stmt := top 49
abbrev s_law_fields : Stmt := top 50
abbrev s_law_sheet : Stmt := top 51
abbrev s_law_hang : Stmt := top 52
abbrev s_law_full : Stmt := top 53
abbrev s_law_tear : Stmt := top 54
abbrev s_law_tears : Stmt := top 55
abbrev s_law_torn : Stmt := top 56
abbrev s_law_kind : Stmt := top 57
abbrev s_law_kind_word : Stmt := top 58
abbrev s_law : Stmt := top 59
/-- what the module holds -/
structure Md (K : Frg) (mg : Str → Option Value) : Prop where
  f_len : mg "len" = none
  f_sorted : mg "sorted" = none
  f_tuple : mg "tuple" = none
  f_list : mg "list" = none
  f_range : mg "range" = none
  f_enumerate : mg "enumerate" = none
  f_zip : mg "zip" = none
  f_min : mg "min" = none
  f_max : mg "max" = none
  f_isinstance : mg "isinstance" = none
  f_int : mg "int" = none
  f_str : mg "str" = none
  f_bool : mg "bool" = none
  f_ValueError : mg "ValueError" = none
  c_MOST_SIDE : ∃ t, mg "MOST_SIDE" = some (.int 7 t)
  c_MOST_FIELDS : ∃ t, mg "MOST_FIELDS" = some (.int 16 t)
  x_BadSheet : ExC K mg (Str.ofString "BadSheet")
  x_BadTorn : ExC K mg (Str.ofString "BadTorn")
  x_BadPieces : ExC K mg (Str.ofString "BadPieces")
def Xnames : List String := ["BadSheet", "BadTorn", "BadPieces"]
abbrev N_is_within : List Str := ["thing", "low", "high"]
def m_is_within : SM := sRet (eV (oAnd (oIs "int" (oVar 0)) (oAnd (oB (bNot (bT (oIs "bool" (oVar 0))))) (oB (bChain (ltF pLe) (ltF pLe) (oVar 1) (oVar 0) (oVar 2))))))
def fm_is_within : FM := runD N_is_within m_is_within
theorem ok_is_within {P : Program} {w : World} {K : PySem.W.Frag} {mg : Str → Option Value} {base : Heap} {f : Addr} {fd : FuncData} (M : Md K mg) (F : FunD K "is_within" "is_within" (defArgs s_is_within) (defBody s_is_within) (defScope s_is_within) [] [] f fd) (hm : mg "is_within" = some (.ref f))  : FnK P w K mg base "is_within" 3 1 fm_is_within :=
  FnK.of (m := m_is_within) (ps := ["thing", "low", "high"]) (N := N_is_within) F hm ⟨rfl, rfl, rfl, by decide +kernel, rfl, by decide +kernel, by decide +kernel⟩ (fun _ _ _ _ _ _ us hl => match us, hl with | [_, _, _], _ => rfl) fun cdv A outer s H E F0 hr k =>
    (DSs.one (DS.ret (DV.toE (DV.and (DV.toO (isI "int" k (oL 0) M.f_isinstance M.f_int)) (DV.and (DV.toO (DV.notT k (DV.toO (isI "bool" k (oL 0) M.f_isinstance M.f_bool)))) (DV.one (vLeLe (oL 1) (oL 0) (oL 2))))))))
abbrev N_is_field : List Str := ["thing", "one"]
def m_is_field : SM := sSeq (sIf (bOr (bNot (bT (oIs "tuple" (oVar 0)))) (b2 neF (oE (eL lenF (lCons (oVar 0) (lNil)))) (oC (.int 2)))) (sRet (eV (oC (.bool false)))) (sSkip)) (sRet (eV (oB (bNot (bT (oE (eLc (.one 1) [1] (iA (vVar 0)) (bNot (bT (oE (eCall 3 fm_is_within (lCons (oVar 1) (lCons (oC (.int 0)) (lCons (oC (.int 7)) (lNil)))))))) (vVar 1))))))))
def fm_is_field : FM := runD N_is_field m_is_field
theorem ok_is_field {P : Program} {w : World} {K : PySem.W.Frag} {mg : Str → Option Value} {base : Heap} {f : Addr} {fd : FuncData} (M : Md K mg) (F : FunD K "is_field" "is_field" (defArgs s_is_field) (defBody s_is_field) (defScope s_is_field) [] [] f fd) (hm : mg "is_field" = some (.ref f)) (h_is_within : FnK P w K mg base "is_within" 3 1 fm_is_within) : FnK P w K mg base "is_field" 1 2 fm_is_field :=
  FnK.of (m := m_is_field) (ps := ["thing"]) (N := N_is_field) F hm ⟨rfl, rfl, rfl, by decide +kernel, rfl, by decide +kernel, by decide +kernel⟩ (fun _ _ _ _ _ _ us hl => match us, hl with | [_], _ => rfl) fun cdv A outer s H E F0 hr k =>
    (DSs.cons (DS.ite (DW.db (DW.or (DB.not (bTru k (DV.toO (isI "tuple" k (oL 0) M.f_isinstance M.f_tuple)))) (DW.or1 (DB.ne k (DE.toO (bLen k M.f_len (DL.cons (oL 0) DL.nil))) (DV.toO DV.int))))) (DSs.one (DS.ret (DV.toE DV.bl))) DSs.nil) (DSs.one (DS.ret (DV.toE (DV.notT k (DE.toO (DE.lc (own := [("one", 1)]) k rfl (DI.any k (vL 0)) (blkOk_by rfl) (fun _ _ _ _ _ => (tN 1 k.nd)) (fun _ _ _ _ _ _ _ ki => (DTs.one (DB.not (bTru ki (DE.toO (DE.call ki h_is_within (hr.mono (by decide)) rfl (DL.cons (oL 1) (DL.cons (DV.toO DV.int) (DL.cons (DV.toO (gI M.c_MOST_SIDE)) DL.nil))))))))) (fun _ _ _ _ _ _ _ ki => (vL 1)))))))))
abbrev N_is_border : List Str := ["thing"]
def m_is_border : SM := sSeq (sIf (bOr (bNot (bT (oIs "tuple" (oVar 0)))) (bOr (b2 neF (oE (eL lenF (lCons (oVar 0) (lNil)))) (oC (.int 3))) (bNot (bT (oIs "str" (o2 idxF (oVar 0) (oC (.int 0)))))))) (sRet (eV (oC (.bool false)))) (sSkip)) (sRet (eV (oAnd (oB (b2 inF (o2 idxF (oVar 0) (oC (.int 0))) (vTup (lCons (oC (.str "right")) (lCons (oC (.str "down")) (lNil)))))) (oE (eCall 1 fm_is_field (lCons (oE (eSlc (oVar 0) (pSome (oC (.int 1))) (pNo))) (lNil)))))))
def fm_is_border : FM := runD N_is_border m_is_border
theorem ok_is_border {P : Program} {w : World} {K : PySem.W.Frag} {mg : Str → Option Value} {base : Heap} {f : Addr} {fd : FuncData} (M : Md K mg) (F : FunD K "is_border" "is_border" (defArgs s_is_border) (defBody s_is_border) (defScope s_is_border) [] [] f fd) (hm : mg "is_border" = some (.ref f)) (h_is_field : FnK P w K mg base "is_field" 1 2 fm_is_field) : FnK P w K mg base "is_border" 1 3 fm_is_border :=
  FnK.of (m := m_is_border) (ps := ["thing"]) (N := N_is_border) F hm ⟨rfl, rfl, rfl, by decide +kernel, rfl, by decide +kernel, by decide +kernel⟩ (fun _ _ _ _ _ _ us hl => match us, hl with | [_], _ => rfl) fun cdv A outer s H E F0 hr k =>
    (DSs.cons (DS.ite (DW.db (DW.or (DB.not (bTru k (DV.toO (isI "tuple" k (oL 0) M.f_isinstance M.f_tuple)))) (DW.or (DB.ne k (DE.toO (bLen k M.f_len (DL.cons (oL 0) DL.nil))) (DV.toO DV.int)) (DW.or1 (DB.not (bTru k (DV.toO (isI "str" k (oIx k (oL 0) (DV.toO DV.int)) M.f_isinstance M.f_str)))))))) (DSs.one (DS.ret (DV.toE DV.bl))) DSs.nil) (DSs.one (DS.ret (DV.toE (DV.and (DV.toO (vIn k (oIx k (oL 0) (DV.toO DV.int)) (DV.toO (DV.tup (DLV.cons DV.str (DLV.cons DV.str DLV.nil)))))) (DV.one (DE.toV (DE.call k h_is_field (hr.mono (by decide)) rfl (DL.cons (DE.toO (DE.slc k (oL 0) (DP.yes (DV.toO DV.int)) DP.no)) DL.nil)))))))))
abbrev N_fields_at : List Str := ["border", "word", "x", "y"]
def m_fields_at : SM := sSeq (sUnp [1, 2, 3] (vVar 0)) (sRet (eV (vTup (lCons (vTup (lCons (vVar 2) (lCons (vVar 3) (lNil)))) (lCons (mIf (b2 eqF (oVar 1) (oC (.str "right"))) (vTup (lCons (oE (e2 addF (oVar 2) (oC (.int 1)))) (lCons (vVar 3) (lNil)))) (vTup (lCons (vVar 2) (lCons (oE (e2 addF (oVar 3) (oC (.int 1)))) (lNil))))) (lNil))))))
def fm_fields_at : FM := runD N_fields_at m_fields_at
theorem ok_fields_at {P : Program} {w : World} {K : PySem.W.Frag} {mg : Str → Option Value} {base : Heap} {f : Addr} {fd : FuncData} (M : Md K mg) (F : FunD K "fields_at" "fields_at" (defArgs s_fields_at) (defBody s_fields_at) (defScope s_fields_at) [] [] f fd) (hm : mg "fields_at" = some (.ref f))  : FnK P w K mg base "fields_at" 1 1 fm_fields_at :=
  FnK.of (m := m_fields_at) (ps := ["border"]) (N := N_fields_at) F hm ⟨rfl, rfl, rfl, by decide +kernel, rfl, by decide +kernel, by decide +kernel⟩ (fun _ _ _ _ _ _ us hl => match us, hl with | [_], _ => rfl) fun cdv A outer s H E F0 hr k =>
    (DSs.cons (DS.unp k rfl (tC 1 k.nd (tC 2 k.nd (tC 3 k.nd DGs.nil))) (vL 0)) (DSs.one (DS.ret (DV.toE (DV.tup (DLV.cons (DV.tup (DLV.cons (vL 2) (DLV.cons (vL 3) DLV.nil))) (DLV.cons (DV.ife (DB.eq k (oL 1) (DV.toO DV.str)) (DV.tup (DLV.cons (DE.toV (DE.add k (oL 2) (DV.toO DV.int))) (DLV.cons (vL 3) DLV.nil))) (DV.tup (DLV.cons (vL 2) (DLV.cons (DE.toV (DE.add k (oL 3) (DV.toO DV.int))) DLV.nil)))) DLV.nil)))))))
abbrev N_rises : List Str := ["thing", "one", "other"]
def m_rises : SM := sRet (eV (oB (bNot (bT (oE (eLc (.tup [1, 2]) [1, 2] (iZp (lCons (vVar 0) (lCons (oE (eSlc (oVar 0) (pSome (oC (.int 1))) (pNo))) (lNil)))) (b2 geTF (oVar 1) (oVar 2)) (oC (.int 1))))))))
def fm_rises : FM := runD N_rises m_rises
theorem ok_rises {P : Program} {w : World} {K : PySem.W.Frag} {mg : Str → Option Value} {base : Heap} {f : Addr} {fd : FuncData} (M : Md K mg) (F : FunD K "rises" "rises" (defArgs s_rises) (defBody s_rises) (defScope s_rises) [] [] f fd) (hm : mg "rises" = some (.ref f))  : FnK P w K mg base "rises" 1 1 fm_rises :=
  FnK.of (m := m_rises) (ps := ["thing"]) (N := N_rises) F hm ⟨rfl, rfl, rfl, by decide +kernel, rfl, by decide +kernel, by decide +kernel⟩ (fun _ _ _ _ _ _ us hl => match us, hl with | [_], _ => rfl) fun cdv A outer s H E F0 hr k =>
    (DSs.one (DS.ret (DV.toE (DV.notT k (DE.toO (DE.lc (own := [("one", 1), ("other", 2)]) k rfl (DI.zip k rfl M.f_zip (DLV.cons (vL 0) (DLV.cons (DE.toV (DE.slc k (oL 0) (DP.yes (DV.toO DV.int)) DP.no)) DLV.nil))) (blkOk_by rfl) (fun _ _ _ _ _ => (DG.tup rfl (tC 1 k.nd (tC 2 k.nd DGs.nil)))) (fun _ _ _ _ _ _ _ ki => (DTs.one (DB.geT ki (oL 1) (oL 2)))) (fun _ _ _ _ _ _ _ ki => DV.int)))))))
abbrev N_borders_of : List Str := ["fields", "some", "field", "found", "word", "x", "y"]
def mb_borders_of_1 : SM := sIf (b2 inF (o2 idxF (oE (eCall 1 fm_fields_at (lCons (vTup (lCons (vVar 4) (lCons (vVar 5) (lCons (vVar 6) (lNil))))) (lNil)))) (oC (.int 1))) (oVar 1)) (sApp 3 (vTup (lCons (vVar 4) (lCons (vVar 5) (lCons (vVar 6) (lNil)))))) (sSkip)
def mb_borders_of_2 : SM := sFor (.tup [5, 6]) (iA (vVar 0)) (mb_borders_of_1)
def m_borders_of : SM := sSeq (sSet 1 (eDc (.one 2) [2] (iA (vVar 0)) (bYes) (vVar 2) (oC (.bool true)))) (sSeq (sSet 3 (eLst (lNil))) (sSeq (sFor (.one 4) (iA (vTup (lCons (oC (.str "down")) (lCons (oC (.str "right")) (lNil))))) (mb_borders_of_2)) (sRet (eL sortedF (lCons (oVar 3) (lNil))))))
def fm_borders_of : FM := runD N_borders_of m_borders_of
theorem ok_borders_of {P : Program} {w : World} {K : PySem.W.Frag} {mg : Str → Option Value} {base : Heap} {f : Addr} {fd : FuncData} (M : Md K mg) (F : FunD K "borders_of" "borders_of" (defArgs s_borders_of) (defBody s_borders_of) (defScope s_borders_of) [] [] f fd) (hm : mg "borders_of" = some (.ref f)) (h_fields_at : FnK P w K mg base "fields_at" 1 1 fm_fields_at) : FnK P w K mg base "borders_of" 1 2 fm_borders_of :=
  FnK.of (m := m_borders_of) (ps := ["fields"]) (N := N_borders_of) F hm ⟨rfl, rfl, rfl, by decide +kernel, rfl, by decide +kernel, by decide +kernel⟩ (fun _ _ _ _ _ _ us hl => match us, hl with | [_], _ => rfl) fun cdv A outer s H E F0 hr k =>
    (DSs.cons (DS.setDc (i := 1) (own := [("field", 2)]) k rfl rfl (by first | exact sw_true rfl rfl rfl rfl | rfl) rfl (DI.any k (vL 0)) (blkOk_by rfl) (fun _ _ _ _ _ => (tN 2 k.nd)) (fun _ _ _ _ _ _ _ ki => DTs.nil) (fun _ _ _ _ _ _ _ ki => (vL 2)) (fun _ _ _ _ _ _ _ ki => DV.bl)) (DSs.cons (sL 3 k (DE.lst DLV.nil)) (DSs.cons (DS.for k (passes_of rfl) rfl (DI.any k (DV.tup (DLV.cons DV.str (DLV.cons DV.str DLV.nil)))) (tN 4 k.nd) (DSs.one (DS.for k (passes_of rfl) rfl (DI.any k (vL 0)) (DG.tup rfl (tC 5 k.nd (tC 6 k.nd DGs.nil))) (DSs.one (DS.ite (bIn k (oIx k (DE.toO (DE.call k h_fields_at (hr.mono (by decide)) rfl (DL.cons (DV.toO (DV.tup (DLV.cons (vL 4) (DLV.cons (vL 5) (DLV.cons (vL 6) DLV.nil))))) DL.nil))) (DV.toO DV.int)) (oL 1)) (DSs.one (sAppL 3 (DV.tup (DLV.cons (vL 4) (DLV.cons (vL 5) (DLV.cons (vL 6) DLV.nil)))))) DSs.nil))))) (DSs.one (DS.ret (bSorted k rfl M.f_sorted (DL.cons (oL 3) DL.nil)))))))
abbrev N_lot_from : List Str := ["field", "near", "seen", "waiting", "found", "here", "other"]
def mb_lot_from_1 : SM := sIf (b2 notInF (oVar 6) (oVar 2)) (sSeq (sPut 2 (vVar 6) (oC (.bool true))) (sApp 3 (vVar 6))) (sSkip)
def mb_lot_from_2 : SM := sSeq (sPopTo 5 3) (sSeq (sApp 4 (vVar 5)) (sFor (.one 6) (iA (o2 idxF (vVar 1) (vVar 5))) (mb_lot_from_1)))
def m_lot_from : SM := sSeq (sSet 3 (eLst (lCons (vVar 0) (lNil)))) (sSeq (sSet 4 (eLst (lNil))) (sSeq (sWhile (bT (oVar 3)) (mb_lot_from_2)) (sRet (eL tupleF (lCons (oE (eL sortedF (lCons (oVar 4) (lNil)))) (lNil))))))
theorem ok_lot_from {P : Program} {w : World} {K : PySem.W.Frag} {mg : Str → Option Value} {base : Heap} {f : Addr} {fd : FuncData} (M : Md K mg) (F : FunD K "lot_from" "lot_from" (defArgs s_lot_from) (defBody s_lot_from) (defScope s_lot_from) [] [] f fd) (hm : mg "lot_from" = some (.ref f)) : FnIO P w K mg base "lot_from" 1 N_lot_from m_lot_from :=
  FnIO.of (m := m_lot_from) (ps := ["field", "near", "seen"]) (N := N_lot_from) F hm ⟨rfl, rfl, rfl, by decide +kernel, rfl, by decide +kernel, by decide +kernel⟩ rfl (fun _ _ _ _ _ _ us hl => match us, hl with | [_, _, _], _ => rfl) fun cdv A outer s H E F0 a hr k =>
    (DSs.cons (sL 3 k (DE.lst (DLV.cons (vL 0) DLV.nil))) (DSs.cons (sL 4 k (DE.lst DLV.nil)) (DSs.cons (DS.while (passes_of rfl) (bTru k (oL 3)) (DSs.cons (sPopL 5 3 k) (DSs.cons (sAppL 4 (vL 5)) (DSs.one (DS.for k (passes_of rfl) rfl (DI.any k (vIx k (vL 1) (vL 5))) (tN 6 k.nd) (DSs.one (DS.ite (bNotIn k (oL 6) (oL 2)) (DSs.cons (sPutL 2 k (vL 6) DV.bl) (DSs.one (sAppL 3 (vL 6)))) DSs.nil))))))) (DSs.one (DS.ret (bTuple k rfl M.f_tuple (DL.cons (DE.toO (bSorted k rfl M.f_sorted (DL.cons (oL 4) DL.nil))) DL.nil)))))))
abbrev N_parts_of : List Str := ["fields", "hanging", "near", "field", "border", "one", "other", "seen", "found"]
def mb_parts_of_1 : SM := sIf (b2 notInF (oVar 3) (oVar 7)) (sSeq (sPut 7 (vVar 3) (oC (.bool true))) (sLot 8 3 2 7 N_lot_from m_lot_from)) (sSkip)
def m_parts_of : SM := sNear 2 0 3 4 5 6 (iA (vVar 1)) (sUnp [5, 6] (oE (eCall 1 fm_fields_at (lCons (oVar 4) (lNil))))) (sSeq (sSet 7 (eDNew)) (sSeq (sSet 8 (eLst (lNil))) (sSeq (sFor (.one 3) (iA (vVar 0)) (mb_parts_of_1)) (sRetV 8))))
def fm_parts_of : FM := runD N_parts_of m_parts_of
theorem ok_parts_of {P : Program} {w : World} {K : PySem.W.Frag} {mg : Str → Option Value} {base : Heap} {f : Addr} {fd : FuncData} (M : Md K mg) (F : FunD K "parts_of" "parts_of" (defArgs s_parts_of) (defBody s_parts_of) (defScope s_parts_of) [] [] f fd) (hm : mg "parts_of" = some (.ref f)) (h_lot_from : FnIO P w K mg base "lot_from" 1 N_lot_from m_lot_from) (h_fields_at : FnK P w K mg base "fields_at" 1 1 fm_fields_at) : FnK P w K mg base "parts_of" 2 2 fm_parts_of :=
  FnK.of (m := m_parts_of) (ps := ["fields", "hanging"]) (N := N_parts_of) F hm ⟨rfl, rfl, rfl, by decide +kernel, rfl, by decide +kernel, by decide +kernel⟩ (fun _ _ _ _ _ _ us hl => match us, hl with | [_, _], _ => rfl) fun cdv A outer s H E F0 hr k =>
    (DSs.near (fun _ => rfl) (by decide) (ps_near0 k rfl rfl rfl (vL 0) rfl (blkOk_by rfl) (by rfl) (fun _ _ _ _ _ => pg_name k.nd rfl (by first | exact .inl rfl | exact .inr rfl)) (fun _ _ _ _ _ => (by first | exact .inl rfl | exact .inr (.inl rfl) | exact .inr (.inr rfl))) (by decide) (by decide)) (ps_nearL k rfl (passes_of rfl) (fun C' k' fx => DI.any k' (vL 1)) (tN 4 k.nd) (fun C' k' fx => DS.unp k' rfl (tC 5 k.nd (tC 6 k.nd DGs.nil)) (DE.toV (DE.call k' h_fields_at (hr.mono (by decide)) rfl (DL.cons (oL 4) DL.nil))) (fun i hi => fx i (by rintro rfl; revert hi; decide))) (ps_napp k rfl rfl (by first | exact .inl rfl | exact .inr (.inl rfl) | exact .inr (.inr rfl)) (by decide) (by decide) rfl (by first | exact .inl rfl | exact .inr (.inl rfl) | exact .inr (.inr rfl)) (by decide) (by decide) rfl (by first | exact .inl rfl | exact .inr (.inl rfl) | exact .inr (.inr rfl)) (by decide) (by decide) (by intro _ _; rfl) rfl rfl rfl rfl rfl rfl) (ps_napp k rfl rfl (by first | exact .inl rfl | exact .inr (.inl rfl) | exact .inr (.inr rfl)) (by decide) (by decide) rfl (by first | exact .inl rfl | exact .inr (.inl rfl) | exact .inr (.inr rfl)) (by decide) (by decide) rfl (by first | exact .inl rfl | exact .inr (.inl rfl) | exact .inr (.inr rfl)) (by decide) (by decide) (by intro _ _; rfl) rfl rfl rfl rfl rfl rfl)) (DSs.cons (sL 7 k (DE.dnew k)) (DSs.cons (sL 8 k (DE.lst DLV.nil)) (DSs.cons (DS.for k (passes_of rfl) rfl (DI.any k (vL 0)) (tN 3 k.nd) (DSs.one (DS.ite (bNotIn k (oL 3) (oL 7)) (DSs.cons (sPutL 7 k (vL 3) DV.bl) (DSs.one (DS.lot k h_lot_from (hr.mono (by decide)) rfl rfl (by first | exact .inl rfl | exact .inr (.inl rfl) | exact .inr (.inr rfl)) (by decide) (by decide) rfl (by first | exact .inl rfl | exact .inr (.inl rfl) | exact .inr (.inr rfl)) (by decide) (by decide) rfl (by first | exact .inl rfl | exact .inr (.inl rfl) | exact .inr (.inr rfl)) (by decide) (by decide) rfl (by first | exact .inl rfl | exact .inr (.inl rfl) | exact .inr (.inr rfl)) (by decide) (by decide)))) DSs.nil))) (DSs.one (rV 8))))))
abbrev N_is_sheet : List Str := ["thing", "one", "inner"]
def m_is_sheet : SM := sSeq (sIf (bOr (bNot (bT (oIs "tuple" (oVar 0)))) (bOr (b2 neF (oE (eL lenF (lCons (oVar 0) (lNil)))) (oC (.int 2))) (bNot (bT (oIs "tuple" (o2 idxF (oVar 0) (oC (.int 0)))))))) (sRet (eV (oC (.bool false)))) (sSkip)) (sSeq (sIf (bOr (bNot (bChain (ltF pLe) (ltF pLe) (oC (.int 1)) (oE (eL lenF (lCons (o2 idxF (oVar 0) (oC (.int 0))) (lNil)))) (oC (.int 16)))) (bOr (bT (oE (eLc (.one 1) [1] (iA (o2 idxF (vVar 0) (oC (.int 0)))) (bNot (bT (oE (eCall 1 fm_is_field (lCons (oVar 1) (lNil)))))) (vVar 1)))) (bNot (bT (oE (eCall 1 fm_rises (lCons (o2 idxF (oVar 0) (oC (.int 0))) (lNil)))))))) (sRet (eV (oC (.bool false)))) (sSkip)) (sSeq (sIf (bOr (bNot (bT (oIs "tuple" (o2 idxF (oVar 0) (oC (.int 1)))))) (bOr (bT (oE (eLc (.one 1) [1] (iA (o2 idxF (vVar 0) (oC (.int 1)))) (bNot (bT (oE (eCall 1 fm_is_border (lCons (oVar 1) (lNil)))))) (vVar 1)))) (bNot (bT (oE (eCall 1 fm_rises (lCons (o2 idxF (oVar 0) (oC (.int 1))) (lNil)))))))) (sRet (eV (oC (.bool false)))) (sSkip)) (sSeq (sSet 2 (eCall 1 fm_borders_of (lCons (o2 idxF (oVar 0) (oC (.int 0))) (lNil)))) (sRet (eV (oAnd (oB (bNot (bT (oE (eLc (.one 1) [1] (iA (o2 idxF (vVar 0) (oC (.int 1)))) (b2 notInF (oVar 1) (oVar 2)) (vVar 1)))))) (oB (b2 eqF (oE (eL lenF (lCons (oE (eCall 2 fm_parts_of (lCons (o2 idxF (oVar 0) (oC (.int 0))) (lCons (oVar 2) (lNil))))) (lNil)))) (oC (.int 1))))))))))
def fm_is_sheet : FM := runD N_is_sheet m_is_sheet
theorem ok_is_sheet {P : Program} {w : World} {K : PySem.W.Frag} {mg : Str → Option Value} {base : Heap} {f : Addr} {fd : FuncData} (M : Md K mg) (F : FunD K "is_sheet" "is_sheet" (defArgs s_is_sheet) (defBody s_is_sheet) (defScope s_is_sheet) [] [] f fd) (hm : mg "is_sheet" = some (.ref f)) (h_rises : FnK P w K mg base "rises" 1 1 fm_rises) (h_is_field : FnK P w K mg base "is_field" 1 2 fm_is_field) (h_is_border : FnK P w K mg base "is_border" 1 3 fm_is_border) (h_borders_of : FnK P w K mg base "borders_of" 1 2 fm_borders_of) (h_parts_of : FnK P w K mg base "parts_of" 2 2 fm_parts_of) : FnK P w K mg base "is_sheet" 1 4 fm_is_sheet :=
  FnK.of (m := m_is_sheet) (ps := ["thing"]) (N := N_is_sheet) F hm ⟨rfl, rfl, rfl, by decide +kernel, rfl, by decide +kernel, by decide +kernel⟩ (fun _ _ _ _ _ _ us hl => match us, hl with | [_], _ => rfl) fun cdv A outer s H E F0 hr k =>
    (DSs.cons (DS.ite (DW.db (DW.or (DB.not (bTru k (DV.toO (isI "tuple" k (oL 0) M.f_isinstance M.f_tuple)))) (DW.or (DB.ne k (DE.toO (bLen k M.f_len (DL.cons (oL 0) DL.nil))) (DV.toO DV.int)) (DW.or1 (DB.not (bTru k (DV.toO (isI "tuple" k (oIx k (oL 0) (DV.toO DV.int)) M.f_isinstance M.f_tuple)))))))) (DSs.one (DS.ret (DV.toE DV.bl))) DSs.nil) (DSs.cons (DS.ite (DW.db (DW.or (DB.not (bLeLe (DV.toO DV.int) (DE.toO (bLen k M.f_len (DL.cons (oIx k (oL 0) (DV.toO DV.int)) DL.nil))) (DV.toO (gI M.c_MOST_FIELDS)))) (DW.or (bTru k (DE.toO (DE.lc (own := [("one", 1)]) k rfl (DI.any k (vIx k (vL 0) DV.int)) (blkOk_by rfl) (fun _ _ _ _ _ => (tN 1 k.nd)) (fun _ _ _ _ _ _ _ ki => (DTs.one (DB.not (bTru ki (DE.toO (DE.call ki h_is_field (hr.mono (by decide)) rfl (DL.cons (oL 1) DL.nil))))))) (fun _ _ _ _ _ _ _ ki => (vL 1))))) (DW.or1 (DB.not (bTru k (DE.toO (DE.call k h_rises (hr.mono (by decide)) rfl (DL.cons (oIx k (oL 0) (DV.toO DV.int)) DL.nil))))))))) (DSs.one (DS.ret (DV.toE DV.bl))) DSs.nil) (DSs.cons (DS.ite (DW.db (DW.or (DB.not (bTru k (DV.toO (isI "tuple" k (oIx k (oL 0) (DV.toO DV.int)) M.f_isinstance M.f_tuple)))) (DW.or (bTru k (DE.toO (DE.lc (own := [("one", 1)]) k rfl (DI.any k (vIx k (vL 0) DV.int)) (blkOk_by rfl) (fun _ _ _ _ _ => (tN 1 k.nd)) (fun _ _ _ _ _ _ _ ki => (DTs.one (DB.not (bTru ki (DE.toO (DE.call ki h_is_border (hr.mono (by decide)) rfl (DL.cons (oL 1) DL.nil))))))) (fun _ _ _ _ _ _ _ ki => (vL 1))))) (DW.or1 (DB.not (bTru k (DE.toO (DE.call k h_rises (hr.mono (by decide)) rfl (DL.cons (oIx k (oL 0) (DV.toO DV.int)) DL.nil))))))))) (DSs.one (DS.ret (DV.toE DV.bl))) DSs.nil) (DSs.cons (sL 2 k (DE.call k h_borders_of (hr.mono (by decide)) rfl (DL.cons (oIx k (oL 0) (DV.toO DV.int)) DL.nil))) (DSs.one (DS.ret (DV.toE (DV.and (DV.toO (DV.notT k (DE.toO (DE.lc (own := [("one", 1)]) k rfl (DI.any k (vIx k (vL 0) DV.int)) (blkOk_by rfl) (fun _ _ _ _ _ => (tN 1 k.nd)) (fun _ _ _ _ _ _ _ ki => (DTs.one (bNotIn ki (oL 1) (oL 2)))) (fun _ _ _ _ _ _ _ ki => (vL 1)))))) (DV.one (DV.eq k (DE.toO (bLen k M.f_len (DL.cons (DE.toO (DE.call k h_parts_of (hr.mono (by decide)) rfl (DL.cons (oIx k (oL 0) (DV.toO DV.int)) (DL.cons (oL 2) DL.nil)))) DL.nil))) (DV.toO DV.int)))))))))))
abbrev N_look : List Str := ["sheet"]
def m_look : SM := sIf (bNot (bT (oE (eCall 1 fm_is_sheet (lCons (oVar 0) (lNil)))))) (sRai "BadSheet") (sSkip)
def fm_look : FM := runD N_look m_look
theorem ok_look {P : Program} {w : World} {K : PySem.W.Frag} {mg : Str → Option Value} {base : Heap} {f : Addr} {fd : FuncData} (M : Md K mg) (F : FunD K "look" "look" (defArgs s_look) (defBody s_look) (defScope s_look) [] [] f fd) (hm : mg "look" = some (.ref f)) (h_is_sheet : FnK P w K mg base "is_sheet" 1 4 fm_is_sheet) : FnK P w K mg base "look" 1 5 fm_look :=
  FnK.of (m := m_look) (ps := ["sheet"]) (N := N_look) F hm ⟨rfl, rfl, rfl, by decide +kernel, rfl, by decide +kernel, by decide +kernel⟩ (fun _ _ _ _ _ _ us hl => match us, hl with | [_], _ => rfl) fun cdv A outer s H E F0 hr k =>
    (DSs.one (DS.ite (DB.not (bTru k (DE.toO (DE.call k h_is_sheet (hr.mono (by decide)) rfl (DL.cons (oL 0) DL.nil))))) (DSs.one (DS.rai (x := "BadSheet") k rfl M.x_BadSheet rfl)) DSs.nil))
abbrev N_is_torn : List Str := ["sheet", "thing", "one"]
def m_is_torn : SM := sSeq (sIf (bOr (bNot (bT (oIs "tuple" (oVar 1)))) (bOr (bT (oE (eLc (.one 2) [2] (iA (vVar 1)) (bNot (bT (oE (eCall 1 fm_is_border (lCons (oVar 2) (lNil)))))) (vVar 2)))) (bNot (bT (oE (eCall 1 fm_rises (lCons (oVar 1) (lNil)))))))) (sRet (eV (oC (.bool false)))) (sSkip)) (sRet (eV (oB (bNot (bT (oE (eLc (.one 2) [2] (iA (vVar 1)) (b2 notInF (oVar 2) (o2 idxF (oVar 0) (oC (.int 1)))) (vVar 2))))))))
def fm_is_torn : FM := runD N_is_torn m_is_torn
theorem ok_is_torn {P : Program} {w : World} {K : PySem.W.Frag} {mg : Str → Option Value} {base : Heap} {f : Addr} {fd : FuncData} (M : Md K mg) (F : FunD K "is_torn" "is_torn" (defArgs s_is_torn) (defBody s_is_torn) (defScope s_is_torn) [] [] f fd) (hm : mg "is_torn" = some (.ref f)) (h_rises : FnK P w K mg base "rises" 1 1 fm_rises) (h_is_border : FnK P w K mg base "is_border" 1 3 fm_is_border) : FnK P w K mg base "is_torn" 2 4 fm_is_torn :=
  FnK.of (m := m_is_torn) (ps := ["sheet", "thing"]) (N := N_is_torn) F hm ⟨rfl, rfl, rfl, by decide +kernel, rfl, by decide +kernel, by decide +kernel⟩ (fun _ _ _ _ _ _ us hl => match us, hl with | [_, _], _ => rfl) fun cdv A outer s H E F0 hr k =>
    (DSs.cons (DS.ite (DW.db (DW.or (DB.not (bTru k (DV.toO (isI "tuple" k (oL 1) M.f_isinstance M.f_tuple)))) (DW.or (bTru k (DE.toO (DE.lc (own := [("one", 2)]) k rfl (DI.any k (vL 1)) (blkOk_by rfl) (fun _ _ _ _ _ => (tN 2 k.nd)) (fun _ _ _ _ _ _ _ ki => (DTs.one (DB.not (bTru ki (DE.toO (DE.call ki h_is_border (hr.mono (by decide)) rfl (DL.cons (oL 2) DL.nil))))))) (fun _ _ _ _ _ _ _ ki => (vL 2))))) (DW.or1 (DB.not (bTru k (DE.toO (DE.call k h_rises (hr.mono (by decide)) rfl (DL.cons (oL 1) DL.nil))))))))) (DSs.one (DS.ret (DV.toE DV.bl))) DSs.nil) (DSs.one (DS.ret (DV.toE (DV.notT k (DE.toO (DE.lc (own := [("one", 2)]) k rfl (DI.any k (vL 1)) (blkOk_by rfl) (fun _ _ _ _ _ => (tN 2 k.nd)) (fun _ _ _ _ _ _ _ ki => (DTs.one (bNotIn ki (oL 2) (oIx ki (oL 0) (DV.toO DV.int))))) (fun _ _ _ _ _ _ _ ki => (vL 2)))))))))
abbrev N_look_torn : List Str := ["sheet", "torn"]
def m_look_torn : SM := sSeq (sExp (eCall 1 fm_look (lCons (oVar 0) (lNil)))) (sIf (bNot (bT (oE (eCall 2 fm_is_torn (lCons (oVar 0) (lCons (oVar 1) (lNil))))))) (sRai "BadTorn") (sSkip))
def fm_look_torn : FM := runD N_look_torn m_look_torn
theorem ok_look_torn {P : Program} {w : World} {K : PySem.W.Frag} {mg : Str → Option Value} {base : Heap} {f : Addr} {fd : FuncData} (M : Md K mg) (F : FunD K "look_torn" "look_torn" (defArgs s_look_torn) (defBody s_look_torn) (defScope s_look_torn) [] [] f fd) (hm : mg "look_torn" = some (.ref f)) (h_look : FnK P w K mg base "look" 1 5 fm_look) (h_is_torn : FnK P w K mg base "is_torn" 2 4 fm_is_torn) : FnK P w K mg base "look_torn" 2 6 fm_look_torn :=
  FnK.of (m := m_look_torn) (ps := ["sheet", "torn"]) (N := N_look_torn) F hm ⟨rfl, rfl, rfl, by decide +kernel, rfl, by decide +kernel, by decide +kernel⟩ (fun _ _ _ _ _ _ us hl => match us, hl with | [_, _], _ => rfl) fun cdv A outer s H E F0 hr k =>
    (DSs.cons (DS.exp (DE.call k h_look (hr.mono (by decide)) rfl (DL.cons (oL 0) DL.nil))) (DSs.one (DS.ite (DB.not (bTru k (DE.toO (DE.call k h_is_torn (hr.mono (by decide)) rfl (DL.cons (oL 0) (DL.cons (oL 1) DL.nil)))))) (DSs.one (DS.rai (x := "BadTorn") k rfl M.x_BadTorn rfl)) DSs.nil)))
abbrev N_hanging_of : List Str := ["sheet", "torn", "gone", "border"]
def m_hanging_of : SM := sSeq (sSet 2 (eDc (.one 3) [3] (iA (vVar 1)) (bYes) (vVar 3) (oC (.bool true)))) (sRet (eDc (.one 3) [3] (iA (oE (eCall 1 fm_borders_of (lCons (o2 idxF (oVar 0) (oC (.int 0))) (lNil))))) (b2 notInF (oVar 3) (oVar 2)) (vVar 3) (oC (.bool true))))
def fm_hanging_of : FM := runD N_hanging_of m_hanging_of
theorem ok_hanging_of {P : Program} {w : World} {K : PySem.W.Frag} {mg : Str → Option Value} {base : Heap} {f : Addr} {fd : FuncData} (M : Md K mg) (F : FunD K "hanging_of" "hanging_of" (defArgs s_hanging_of) (defBody s_hanging_of) (defScope s_hanging_of) [] [] f fd) (hm : mg "hanging_of" = some (.ref f)) (h_borders_of : FnK P w K mg base "borders_of" 1 2 fm_borders_of) : FnK P w K mg base "hanging_of" 2 3 fm_hanging_of :=
  FnK.of (m := m_hanging_of) (ps := ["sheet", "torn"]) (N := N_hanging_of) F hm ⟨rfl, rfl, rfl, by decide +kernel, rfl, by decide +kernel, by decide +kernel⟩ (fun _ _ _ _ _ _ us hl => match us, hl with | [_, _], _ => rfl) fun cdv A outer s H E F0 hr k =>
    (DSs.cons (sL 2 k (DE.dc (own := [("border", 3)]) k rfl (DI.any k (vL 1)) (blkOk_by rfl) (fun _ _ _ _ _ => (tN 3 k.nd)) (fun _ _ _ _ _ _ _ ki => DTs.nil) (fun _ _ _ _ _ _ _ ki => (vL 3)) (fun _ _ _ _ _ _ _ ki => DV.bl))) (DSs.one (DS.ret (DE.dc (own := [("border", 3)]) k rfl (DI.any k (DE.toV (DE.call k h_borders_of (hr.mono (by decide)) rfl (DL.cons (oIx k (oL 0) (DV.toO DV.int)) DL.nil)))) (blkOk_by rfl) (fun _ _ _ _ _ => (tN 3 k.nd)) (fun _ _ _ _ _ _ _ ki => (DTs.one (bNotIn ki (oL 3) (oL 2)))) (fun _ _ _ _ _ _ _ ki => (vL 3)) (fun _ _ _ _ _ _ _ ki => DV.bl)))))
abbrev N_around : List Str := ["corner", "x", "y"]
def m_around : SM := sSeq (sUnp [1, 2] (vVar 0)) (sRet (eV (vTup (lCons (vTup (lCons (oC (.str "down")) (lCons (oE (e2 (iF yes2 fun i j => i - j) (oVar 1) (oC (.int 1)))) (lCons (oE (e2 (iF yes2 fun i j => i - j) (oVar 2) (oC (.int 1)))) (lNil))))) (lCons (vTup (lCons (oC (.str "down")) (lCons (vVar 1) (lCons (oE (e2 (iF yes2 fun i j => i - j) (oVar 2) (oC (.int 1)))) (lNil))))) (lCons (vTup (lCons (oC (.str "right")) (lCons (oE (e2 (iF yes2 fun i j => i - j) (oVar 1) (oC (.int 1)))) (lCons (oE (e2 (iF yes2 fun i j => i - j) (oVar 2) (oC (.int 1)))) (lNil))))) (lCons (vTup (lCons (oC (.str "right")) (lCons (oE (e2 (iF yes2 fun i j => i - j) (oVar 1) (oC (.int 1)))) (lCons (vVar 2) (lNil))))) (lNil))))))))
def fm_around : FM := runD N_around m_around
theorem ok_around {P : Program} {w : World} {K : PySem.W.Frag} {mg : Str → Option Value} {base : Heap} {f : Addr} {fd : FuncData} (M : Md K mg) (F : FunD K "around" "around" (defArgs s_around) (defBody s_around) (defScope s_around) [] [] f fd) (hm : mg "around" = some (.ref f))  : FnK P w K mg base "around" 1 1 fm_around :=
  FnK.of (m := m_around) (ps := ["corner"]) (N := N_around) F hm ⟨rfl, rfl, rfl, by decide +kernel, rfl, by decide +kernel, by decide +kernel⟩ (fun _ _ _ _ _ _ us hl => match us, hl with | [_], _ => rfl) fun cdv A outer s H E F0 hr k =>
    (DSs.cons (DS.unp k rfl (tC 1 k.nd (tC 2 k.nd DGs.nil)) (vL 0)) (DSs.one (DS.ret (DV.toE (DV.tup (DLV.cons (DV.tup (DLV.cons DV.str (DLV.cons (DE.toV (DE.sub (oL 1) (DV.toO DV.int))) (DLV.cons (DE.toV (DE.sub (oL 2) (DV.toO DV.int))) DLV.nil)))) (DLV.cons (DV.tup (DLV.cons DV.str (DLV.cons (vL 1) (DLV.cons (DE.toV (DE.sub (oL 2) (DV.toO DV.int))) DLV.nil)))) (DLV.cons (DV.tup (DLV.cons DV.str (DLV.cons (DE.toV (DE.sub (oL 1) (DV.toO DV.int))) (DLV.cons (DE.toV (DE.sub (oL 2) (DV.toO DV.int))) DLV.nil)))) (DLV.cons (DV.tup (DLV.cons DV.str (DLV.cons (DE.toV (DE.sub (oL 1) (DV.toO DV.int))) (DLV.cons (vL 2) DLV.nil)))) DLV.nil)))))))))
abbrev N_is_whole_corner : List Str := ["hanging", "corner", "border"]
def m_is_whole_corner : SM := sRet (eV (oB (bNot (bT (oE (eLc (.one 2) [2] (iA (oE (eCall 1 fm_around (lCons (oVar 1) (lNil))))) (b2 notInF (oVar 2) (oVar 0)) (vVar 2)))))))
def fm_is_whole_corner : FM := runD N_is_whole_corner m_is_whole_corner
theorem ok_is_whole_corner {P : Program} {w : World} {K : PySem.W.Frag} {mg : Str → Option Value} {base : Heap} {f : Addr} {fd : FuncData} (M : Md K mg) (F : FunD K "is_whole_corner" "is_whole_corner" (defArgs s_is_whole_corner) (defBody s_is_whole_corner) (defScope s_is_whole_corner) [] [] f fd) (hm : mg "is_whole_corner" = some (.ref f)) (h_around : FnK P w K mg base "around" 1 1 fm_around) : FnK P w K mg base "is_whole_corner" 2 2 fm_is_whole_corner :=
  FnK.of (m := m_is_whole_corner) (ps := ["hanging", "corner"]) (N := N_is_whole_corner) F hm ⟨rfl, rfl, rfl, by decide +kernel, rfl, by decide +kernel, by decide +kernel⟩ (fun _ _ _ _ _ _ us hl => match us, hl with | [_, _], _ => rfl) fun cdv A outer s H E F0 hr k =>
    (DSs.one (DS.ret (DV.toE (DV.notT k (DE.toO (DE.lc (own := [("border", 2)]) k rfl (DI.any k (DE.toV (DE.call k h_around (hr.mono (by decide)) rfl (DL.cons (oL 1) DL.nil)))) (blkOk_by rfl) (fun _ _ _ _ _ => (tN 2 k.nd)) (fun _ _ _ _ _ _ _ ki => (DTs.one (bNotIn ki (oL 2) (oL 0)))) (fun _ _ _ _ _ _ _ ki => (vL 2))))))))
abbrev N_corners_at : List Str := ["border", "word", "x", "y"]
def m_corners_at : SM := sSeq (sUnp [1, 2, 3] (vVar 0)) (sRet (eV (mIf (b2 eqF (oVar 1) (oC (.str "right"))) (vTup (lCons (vTup (lCons (oE (e2 addF (oVar 2) (oC (.int 1)))) (lCons (vVar 3) (lNil)))) (lCons (vTup (lCons (oE (e2 addF (oVar 2) (oC (.int 1)))) (lCons (oE (e2 addF (oVar 3) (oC (.int 1)))) (lNil)))) (lNil)))) (vTup (lCons (vTup (lCons (vVar 2) (lCons (oE (e2 addF (oVar 3) (oC (.int 1)))) (lNil)))) (lCons (vTup (lCons (oE (e2 addF (oVar 2) (oC (.int 1)))) (lCons (oE (e2 addF (oVar 3) (oC (.int 1)))) (lNil)))) (lNil)))))))
def fm_corners_at : FM := runD N_corners_at m_corners_at
theorem ok_corners_at {P : Program} {w : World} {K : PySem.W.Frag} {mg : Str → Option Value} {base : Heap} {f : Addr} {fd : FuncData} (M : Md K mg) (F : FunD K "corners_at" "corners_at" (defArgs s_corners_at) (defBody s_corners_at) (defScope s_corners_at) [] [] f fd) (hm : mg "corners_at" = some (.ref f))  : FnK P w K mg base "corners_at" 1 1 fm_corners_at :=
  FnK.of (m := m_corners_at) (ps := ["border"]) (N := N_corners_at) F hm ⟨rfl, rfl, rfl, by decide +kernel, rfl, by decide +kernel, by decide +kernel⟩ (fun _ _ _ _ _ _ us hl => match us, hl with | [_], _ => rfl) fun cdv A outer s H E F0 hr k =>
    (DSs.cons (DS.unp k rfl (tC 1 k.nd (tC 2 k.nd (tC 3 k.nd DGs.nil))) (vL 0)) (DSs.one (DS.ret (DV.toE (DV.ife (DB.eq k (oL 1) (DV.toO DV.str)) (DV.tup (DLV.cons (DV.tup (DLV.cons (DE.toV (DE.add k (oL 2) (DV.toO DV.int))) (DLV.cons (vL 3) DLV.nil))) (DLV.cons (DV.tup (DLV.cons (DE.toV (DE.add k (oL 2) (DV.toO DV.int))) (DLV.cons (DE.toV (DE.add k (oL 3) (DV.toO DV.int))) DLV.nil))) DLV.nil))) (DV.tup (DLV.cons (DV.tup (DLV.cons (vL 2) (DLV.cons (DE.toV (DE.add k (oL 3) (DV.toO DV.int))) DLV.nil))) (DLV.cons (DV.tup (DLV.cons (DE.toV (DE.add k (oL 2) (DV.toO DV.int))) (DLV.cons (DE.toV (DE.add k (oL 3) (DV.toO DV.int))) DLV.nil))) DLV.nil))))))))
abbrev N_next_to : List Str := ["border", "way", "word", "x", "y"]
def m_next_to : SM := sSeq (sUnp [2, 3, 4] (vVar 0)) (sRet (eV (mIf (b2 eqF (oVar 2) (oC (.str "right"))) (vTup (lCons (vVar 2) (lCons (vVar 3) (lCons (oE (e2 addF (oVar 4) (oVar 1))) (lNil))))) (vTup (lCons (vVar 2) (lCons (oE (e2 addF (oVar 3) (oVar 1))) (lCons (vVar 4) (lNil))))))))
def fm_next_to : FM := runD N_next_to m_next_to
theorem ok_next_to {P : Program} {w : World} {K : PySem.W.Frag} {mg : Str → Option Value} {base : Heap} {f : Addr} {fd : FuncData} (M : Md K mg) (F : FunD K "next_to" "next_to" (defArgs s_next_to) (defBody s_next_to) (defScope s_next_to) [] [] f fd) (hm : mg "next_to" = some (.ref f))  : FnK P w K mg base "next_to" 2 1 fm_next_to :=
  FnK.of (m := m_next_to) (ps := ["border", "way"]) (N := N_next_to) F hm ⟨rfl, rfl, rfl, by decide +kernel, rfl, by decide +kernel, by decide +kernel⟩ (fun _ _ _ _ _ _ us hl => match us, hl with | [_, _], _ => rfl) fun cdv A outer s H E F0 hr k =>
    (DSs.cons (DS.unp k rfl (tC 2 k.nd (tC 3 k.nd (tC 4 k.nd DGs.nil))) (vL 0)) (DSs.one (DS.ret (DV.toE (DV.ife (DB.eq k (oL 2) (DV.toO DV.str)) (DV.tup (DLV.cons (vL 2) (DLV.cons (vL 3) (DLV.cons (DE.toV (DE.add k (oL 4) (oL 1))) DLV.nil)))) (DV.tup (DLV.cons (vL 2) (DLV.cons (DE.toV (DE.add k (oL 3) (oL 1))) (DLV.cons (vL 4) DLV.nil)))))))))
abbrev N_run_of : List Str := ["hanging", "border", "way", "found", "here"]
def mb_run_of_1 : SM := sSeq (sSet 4 (eCall 2 fm_next_to (lCons (oVar 4) (lCons (oVar 2) (lNil))))) (sFrz 4 (sApp 3 (vVar 4)))
def m_run_of : SM := sSeq (sSet 3 (eLst (lNil))) (sSeq (sSet 4 (eV (vVar 1))) (sSeq (sWhile (bT (oE (eCall 2 fm_is_whole_corner (lCons (oVar 0) (lCons (o2 idxF (oE (eCall 1 fm_corners_at (lCons (oVar 4) (lNil)))) (mIf (b2 (ltF pGt) (oVar 2) (oC (.int 0))) (oC (.int 1)) (oC (.int 0)))) (lNil)))))) (mb_run_of_1)) (sRetV 3)))
def fm_run_of : FM := runD N_run_of m_run_of
theorem ok_run_of {P : Program} {w : World} {K : PySem.W.Frag} {mg : Str → Option Value} {base : Heap} {f : Addr} {fd : FuncData} (M : Md K mg) (F : FunD K "run_of" "run_of" (defArgs s_run_of) (defBody s_run_of) (defScope s_run_of) [] [] f fd) (hm : mg "run_of" = some (.ref f)) (h_is_whole_corner : FnK P w K mg base "is_whole_corner" 2 2 fm_is_whole_corner) (h_corners_at : FnK P w K mg base "corners_at" 1 1 fm_corners_at) (h_next_to : FnK P w K mg base "next_to" 2 1 fm_next_to) : FnK P w K mg base "run_of" 3 3 fm_run_of :=
  FnK.of (m := m_run_of) (ps := ["hanging", "border", "way"]) (N := N_run_of) F hm ⟨rfl, rfl, rfl, by decide +kernel, rfl, by decide +kernel, by decide +kernel⟩ (fun _ _ _ _ _ _ us hl => match us, hl with | [_, _, _], _ => rfl) fun cdv A outer s H E F0 hr k =>
    (DSs.cons (sL 3 k (DE.lst DLV.nil)) (DSs.cons (sL 4 k (DV.toE (vL 1))) (DSs.cons (DS.while (passes_of rfl) (bTru k (DE.toO (DE.call k h_is_whole_corner (hr.mono (by decide)) rfl (DL.cons (oL 0) (DL.cons (oIx k (DE.toO (DE.call k h_corners_at (hr.mono (by decide)) rfl (DL.cons (oL 4) DL.nil))) (DV.toO (DV.ife (DB.gt (oL 2) (DV.toO DV.int)) DV.int DV.int))) DL.nil))))) (DSs.cons (sL 4 k (DE.call k h_next_to (hr.mono (by decide)) rfl (DL.cons (oL 4) (DL.cons (oL 2) DL.nil)))) (DSs.one (DS.frz 4 (sAppL 3 (vL 4)))))) (DSs.one (rV 3)))))
abbrev N_tear_at : List Str := ["hanging", "pricks", "border", "found", "one"]
def m_tear_at : SM := sSeq (sIf (b2 notInF (oVar 2) (oVar 0)) (sRet (eV (oC .none))) (sSkip)) (sSeq (sSet 3 (eL sortedF (lCons (oE (e2 addF (oE (e2 addF (oE (eCall 3 fm_run_of (lCons (oVar 0) (lCons (oVar 2) (lCons (vNeg (oC (.int 1))) (lNil)))))) (oE (eLst (lCons (vVar 2) (lNil)))))) (oE (eCall 3 fm_run_of (lCons (oVar 0) (lCons (oVar 2) (lCons (oC (.int 1)) (lNil)))))))) (lNil)))) (sFrz 3 (sRet (mIf (bT (oE (eLc (.one 4) [4] (iA (vVar 3)) (b2 notInF (oVar 4) (oVar 1)) (vVar 4)))) (eV (oC .none)) (eL tupleF (lCons (oVar 3) (lNil)))))))
def fm_tear_at : FM := runD N_tear_at m_tear_at
theorem ok_tear_at {P : Program} {w : World} {K : PySem.W.Frag} {mg : Str → Option Value} {base : Heap} {f : Addr} {fd : FuncData} (M : Md K mg) (F : FunD K "tear_at" "tear_at" (defArgs s_tear_at) (defBody s_tear_at) (defScope s_tear_at) [] [] f fd) (hm : mg "tear_at" = some (.ref f)) (h_run_of : FnK P w K mg base "run_of" 3 3 fm_run_of) : FnK P w K mg base "tear_at" 3 4 fm_tear_at :=
  FnK.of (m := m_tear_at) (ps := ["hanging", "pricks", "border"]) (N := N_tear_at) F hm ⟨rfl, rfl, rfl, by decide +kernel, rfl, by decide +kernel, by decide +kernel⟩ (fun _ _ _ _ _ _ us hl => match us, hl with | [_, _, _], _ => rfl) fun cdv A outer s H E F0 hr k =>
    (DSs.cons (DS.ite (bNotIn k (oL 2) (oL 0)) (DSs.one (DS.ret (DV.toE DV.non))) DSs.nil) (DSs.cons (sL 3 k (bSorted k rfl M.f_sorted (DL.cons (DE.toO (DE.add k (DE.toO (DE.add k (DE.toO (DE.call k h_run_of (hr.mono (by decide)) rfl (DL.cons (oL 0) (DL.cons (oL 2) (DL.cons (DV.toO (DV.neg (DV.toO DV.int))) DL.nil))))) (DE.toO (DE.lst (DLV.cons (vL 2) DLV.nil))))) (DE.toO (DE.call k h_run_of (hr.mono (by decide)) rfl (DL.cons (oL 0) (DL.cons (oL 2) (DL.cons (DV.toO DV.int) DL.nil))))))) DL.nil))) (DSs.one (DS.frz 3 (DS.ret (DE.ife (bTru k (DE.toO (DE.lc (own := [("one", 4)]) k rfl (DI.any k (vL 3)) (blkOk_by rfl) (fun _ _ _ _ _ => (tN 4 k.nd)) (fun _ _ _ _ _ _ _ ki => (DTs.one (bNotIn ki (oL 4) (oL 1)))) (fun _ _ _ _ _ _ _ ki => (vL 4))))) (DV.toE DV.non) (bTuple k rfl M.f_tuple (DL.cons (oL 3) DL.nil))))))))
abbrev N_tears_of : List Str := ["hanging", "pricks", "found", "border", "tear"]
def mb_tears_of_1 : SM := sSeq (sSet 4 (eCall 3 fm_tear_at (lCons (oVar 0) (lCons (oVar 1) (lCons (oVar 3) (lNil)))))) (sIf (b2 notNF (oVar 4) (oC .none)) (sFrz 4 (sPut 2 (vVar 4) (oC (.bool true)))) (sSkip))
def m_tears_of : SM := sSeq (sSet 2 (eDNew)) (sSeq (sFor (.one 3) (iA (vVar 1)) (mb_tears_of_1)) (sRet (eL sortedF (lCons (oVar 2) (lNil)))))
def fm_tears_of : FM := runD N_tears_of m_tears_of
theorem ok_tears_of {P : Program} {w : World} {K : PySem.W.Frag} {mg : Str → Option Value} {base : Heap} {f : Addr} {fd : FuncData} (M : Md K mg) (F : FunD K "tears_of" "tears_of" (defArgs s_tears_of) (defBody s_tears_of) (defScope s_tears_of) [] [] f fd) (hm : mg "tears_of" = some (.ref f)) (h_tear_at : FnK P w K mg base "tear_at" 3 4 fm_tear_at) : FnK P w K mg base "tears_of" 2 5 fm_tears_of :=
  FnK.of (m := m_tears_of) (ps := ["hanging", "pricks"]) (N := N_tears_of) F hm ⟨rfl, rfl, rfl, by decide +kernel, rfl, by decide +kernel, by decide +kernel⟩ (fun _ _ _ _ _ _ us hl => match us, hl with | [_, _], _ => rfl) fun cdv A outer s H E F0 hr k =>
    (DSs.cons (sL 2 k (DE.dnew k)) (DSs.cons (DS.for k (passes_of rfl) rfl (DI.any k (vL 1)) (tN 3 k.nd) (DSs.cons (sL 4 k (DE.call k h_tear_at (hr.mono (by decide)) rfl (DL.cons (oL 0) (DL.cons (oL 1) (DL.cons (oL 3) DL.nil))))) (DSs.one (DS.ite (DB.notN (oL 4) (DV.toO DV.non)) (DSs.one (DS.frz 4 (sPutL 2 k (vL 4) DV.bl))) DSs.nil)))) (DSs.one (DS.ret (bSorted k rfl M.f_sorted (DL.cons (oL 2) DL.nil))))))
abbrev N_pricks_of : List Str := ["sheet", "border"]
def m_pricks_of : SM := sRet (eDc (.one 1) [1] (iA (o2 idxF (vVar 0) (oC (.int 1)))) (bYes) (vVar 1) (oC (.bool true)))
def fm_pricks_of : FM := runD N_pricks_of m_pricks_of
theorem ok_pricks_of {P : Program} {w : World} {K : PySem.W.Frag} {mg : Str → Option Value} {base : Heap} {f : Addr} {fd : FuncData} (M : Md K mg) (F : FunD K "pricks_of" "pricks_of" (defArgs s_pricks_of) (defBody s_pricks_of) (defScope s_pricks_of) [] [] f fd) (hm : mg "pricks_of" = some (.ref f))  : FnK P w K mg base "pricks_of" 1 1 fm_pricks_of :=
  FnK.of (m := m_pricks_of) (ps := ["sheet"]) (N := N_pricks_of) F hm ⟨rfl, rfl, rfl, by decide +kernel, rfl, by decide +kernel, by decide +kernel⟩ (fun _ _ _ _ _ _ us hl => match us, hl with | [_], _ => rfl) fun cdv A outer s H E F0 hr k =>
    (DSs.one (DS.ret (DE.dc (own := [("border", 1)]) k rfl (DI.any k (vIx k (vL 0) DV.int)) (blkOk_by rfl) (fun _ _ _ _ _ => (tN 1 k.nd)) (fun _ _ _ _ _ _ _ ki => DTs.nil) (fun _ _ _ _ _ _ _ ki => (vL 1)) (fun _ _ _ _ _ _ _ ki => DV.bl))))
abbrev N_pieces_of : List Str := ["sheet", "torn"]
def m_pieces_of : SM := sRet (eCall 2 fm_parts_of (lCons (o2 idxF (oVar 0) (oC (.int 0))) (lCons (oE (eL listF (lCons (oE (eCall 2 fm_hanging_of (lCons (oVar 0) (lCons (oVar 1) (lNil))))) (lNil)))) (lNil))))
def fm_pieces_of : FM := runD N_pieces_of m_pieces_of
theorem ok_pieces_of {P : Program} {w : World} {K : PySem.W.Frag} {mg : Str → Option Value} {base : Heap} {f : Addr} {fd : FuncData} (M : Md K mg) (F : FunD K "pieces_of" "pieces_of" (defArgs s_pieces_of) (defBody s_pieces_of) (defScope s_pieces_of) [] [] f fd) (hm : mg "pieces_of" = some (.ref f)) (h_parts_of : FnK P w K mg base "parts_of" 2 2 fm_parts_of) (h_hanging_of : FnK P w K mg base "hanging_of" 2 3 fm_hanging_of) : FnK P w K mg base "pieces_of" 2 4 fm_pieces_of :=
  FnK.of (m := m_pieces_of) (ps := ["sheet", "torn"]) (N := N_pieces_of) F hm ⟨rfl, rfl, rfl, by decide +kernel, rfl, by decide +kernel, by decide +kernel⟩ (fun _ _ _ _ _ _ us hl => match us, hl with | [_, _], _ => rfl) fun cdv A outer s H E F0 hr k =>
    (DSs.one (DS.ret (DE.call k h_parts_of (hr.mono (by decide)) rfl (DL.cons (oIx k (oL 0) (DV.toO DV.int)) (DL.cons (DE.toO (bList k rfl M.f_list (DL.cons (DE.toO (DE.call k h_hanging_of (hr.mono (by decide)) rfl (DL.cons (oL 0) (DL.cons (oL 1) DL.nil)))) DL.nil))) DL.nil)))))
abbrev N_pieces : List Str := ["sheet", "torn"]
def m_pieces : SM := sSeq (sExp (eCall 2 fm_look_torn (lCons (oVar 0) (lCons (oVar 1) (lNil))))) (sRet (eCall 2 fm_pieces_of (lCons (oVar 0) (lCons (oVar 1) (lNil)))))
def fm_pieces : FM := runD N_pieces m_pieces
theorem ok_pieces {P : Program} {w : World} {K : PySem.W.Frag} {mg : Str → Option Value} {base : Heap} {f : Addr} {fd : FuncData} (M : Md K mg) (F : FunD K "pieces" "pieces" (defArgs s_pieces) (defBody s_pieces) (defScope s_pieces) [] [] f fd) (hm : mg "pieces" = some (.ref f)) (h_look_torn : FnK P w K mg base "look_torn" 2 6 fm_look_torn) (h_pieces_of : FnK P w K mg base "pieces_of" 2 4 fm_pieces_of) : FnK P w K mg base "pieces" 2 7 fm_pieces :=
  FnK.of (m := m_pieces) (ps := ["sheet", "torn"]) (N := N_pieces) F hm ⟨rfl, rfl, rfl, by decide +kernel, rfl, by decide +kernel, by decide +kernel⟩ (fun _ _ _ _ _ _ us hl => match us, hl with | [_, _], _ => rfl) fun cdv A outer s H E F0 hr k =>
    (DSs.cons (DS.exp (DE.call k h_look_torn (hr.mono (by decide)) rfl (DL.cons (oL 0) (DL.cons (oL 1) DL.nil)))) (DSs.one (DS.ret (DE.call k h_pieces_of (hr.mono (by decide)) rfl (DL.cons (oL 0) (DL.cons (oL 1) DL.nil))))))
abbrev N_is_piece : List Str := ["thing", "one"]
def m_is_piece : SM := sSeq (sIf (bOr (bNot (bT (oIs "tuple" (oVar 0)))) (bNot (bChain (ltF pLe) (ltF pLe) (oC (.int 1)) (oE (eL lenF (lCons (oVar 0) (lNil)))) (oC (.int 16))))) (sRet (eV (oC (.bool false)))) (sSkip)) (sSeq (sIf (bT (oE (eLc (.one 1) [1] (iA (vVar 0)) (bNot (bT (oE (eCall 1 fm_is_field (lCons (oVar 1) (lNil)))))) (vVar 1)))) (sRet (eV (oC (.bool false)))) (sSkip)) (sRet (eV (oAnd (oE (eCall 1 fm_rises (lCons (oVar 0) (lNil)))) (oB (b2 eqF (oE (eL lenF (lCons (oE (eCall 2 fm_parts_of (lCons (oVar 0) (lCons (oE (eCall 1 fm_borders_of (lCons (oVar 0) (lNil)))) (lNil))))) (lNil)))) (oC (.int 1))))))))
def fm_is_piece : FM := runD N_is_piece m_is_piece
theorem ok_is_piece {P : Program} {w : World} {K : PySem.W.Frag} {mg : Str → Option Value} {base : Heap} {f : Addr} {fd : FuncData} (M : Md K mg) (F : FunD K "is_piece" "is_piece" (defArgs s_is_piece) (defBody s_is_piece) (defScope s_is_piece) [] [] f fd) (hm : mg "is_piece" = some (.ref f)) (h_is_field : FnK P w K mg base "is_field" 1 2 fm_is_field) (h_parts_of : FnK P w K mg base "parts_of" 2 2 fm_parts_of) (h_borders_of : FnK P w K mg base "borders_of" 1 2 fm_borders_of) (h_rises : FnK P w K mg base "rises" 1 1 fm_rises) : FnK P w K mg base "is_piece" 1 3 fm_is_piece :=
  FnK.of (m := m_is_piece) (ps := ["thing"]) (N := N_is_piece) F hm ⟨rfl, rfl, rfl, by decide +kernel, rfl, by decide +kernel, by decide +kernel⟩ (fun _ _ _ _ _ _ us hl => match us, hl with | [_], _ => rfl) fun cdv A outer s H E F0 hr k =>
    (DSs.cons (DS.ite (DW.db (DW.or (DB.not (bTru k (DV.toO (isI "tuple" k (oL 0) M.f_isinstance M.f_tuple)))) (DW.or1 (DB.not (bLeLe (DV.toO DV.int) (DE.toO (bLen k M.f_len (DL.cons (oL 0) DL.nil))) (DV.toO (gI M.c_MOST_FIELDS))))))) (DSs.one (DS.ret (DV.toE DV.bl))) DSs.nil) (DSs.cons (DS.ite (bTru k (DE.toO (DE.lc (own := [("one", 1)]) k rfl (DI.any k (vL 0)) (blkOk_by rfl) (fun _ _ _ _ _ => (tN 1 k.nd)) (fun _ _ _ _ _ _ _ ki => (DTs.one (DB.not (bTru ki (DE.toO (DE.call ki h_is_field (hr.mono (by decide)) rfl (DL.cons (oL 1) DL.nil))))))) (fun _ _ _ _ _ _ _ ki => (vL 1))))) (DSs.one (DS.ret (DV.toE DV.bl))) DSs.nil) (DSs.one (DS.ret (DV.toE (DV.and (DE.toO (DE.call k h_rises (hr.mono (by decide)) rfl (DL.cons (oL 0) DL.nil))) (DV.one (DV.eq k (DE.toO (bLen k M.f_len (DL.cons (DE.toO (DE.call k h_parts_of (hr.mono (by decide)) rfl (DL.cons (oL 0) (DL.cons (DE.toO (DE.call k h_borders_of (hr.mono (by decide)) rfl (DL.cons (oL 0) DL.nil))) DL.nil)))) DL.nil))) (DV.toO DV.int)))))))))
abbrev N_moved : List Str := ["fields", "left", "top", "x", "y"]
def m_moved : SM := sSeq (sPar 1 2 (eL minF1 (lCons (oE (eLc (.tup [3, 4]) [3, 4] (iA (vVar 0)) (bYes) (vVar 3))) (lNil))) (eL minF1 (lCons (oE (eLc (.tup [3, 4]) [3, 4] (iA (vVar 0)) (bYes) (vVar 4))) (lNil)))) (sRet (eL tupleF (lCons (oE (eL sortedF (lCons (oE (eLc (.tup [3, 4]) [3, 4] (iA (vVar 0)) (bYes) (vTup (lCons (oE (e2 (iF yes2 fun i j => i - j) (oVar 3) (oVar 1))) (lCons (oE (e2 (iF yes2 fun i j => i - j) (oVar 4) (oVar 2))) (lNil)))))) (lNil)))) (lNil))))
def fm_moved : FM := runD N_moved m_moved
theorem ok_moved {P : Program} {w : World} {K : PySem.W.Frag} {mg : Str → Option Value} {base : Heap} {f : Addr} {fd : FuncData} (M : Md K mg) (F : FunD K "moved" "moved" (defArgs s_moved) (defBody s_moved) (defScope s_moved) [] [] f fd) (hm : mg "moved" = some (.ref f))  : FnK P w K mg base "moved" 1 1 fm_moved :=
  FnK.of (m := m_moved) (ps := ["fields"]) (N := N_moved) F hm ⟨rfl, rfl, rfl, by decide +kernel, rfl, by decide +kernel, by decide +kernel⟩ (fun _ _ _ _ _ _ us hl => match us, hl with | [_], _ => rfl) fun cdv A outer s H E F0 hr k =>
    (DSs.cons (DS.parT k rfl (bMin1 k rfl M.f_min (DL.cons (DE.toO (DE.lc (own := [("x", 3), ("y", 4)]) k rfl (DI.any k (vL 0)) (blkOk_by rfl) (fun _ _ _ _ _ => (DG.tup rfl (tC 3 k.nd (tC 4 k.nd DGs.nil)))) (fun _ _ _ _ _ _ _ ki => DTs.nil) (fun _ _ _ _ _ _ _ ki => (vL 3)))) DL.nil)) (fun _ _ kp => (bMin1 kp rfl M.f_min (DL.cons (DE.toO (DE.lc (own := [("x", 3), ("y", 4)]) kp rfl (DI.any kp (vL 0)) (blkOk_by rfl) (fun _ _ _ _ _ => (DG.tup rfl (tC 3 kp.nd (tC 4 kp.nd DGs.nil)))) (fun _ _ _ _ _ _ _ kpi => DTs.nil) (fun _ _ _ _ _ _ _ kpi => (vL 4)))) DL.nil))) (tC 1 k.nd (tC 2 k.nd DGs.nil)) rfl rfl rfl rfl rfl rfl rfl rfl rfl) (DSs.one (DS.ret (bTuple k rfl M.f_tuple (DL.cons (DE.toO (bSorted k rfl M.f_sorted (DL.cons (DE.toO (DE.lc (own := [("x", 3), ("y", 4)]) k rfl (DI.any k (vL 0)) (blkOk_by rfl) (fun _ _ _ _ _ => (DG.tup rfl (tC 3 k.nd (tC 4 k.nd DGs.nil)))) (fun _ _ _ _ _ _ _ ki => DTs.nil) (fun _ _ _ _ _ _ _ ki => (DV.tup (DLV.cons (DE.toV (DE.sub (oL 3) (oL 1))) (DLV.cons (DE.toV (DE.sub (oL 4) (oL 2))) DLV.nil)))))) DL.nil))) DL.nil)))))
abbrev N_kind_of : List Str := ["fields", "found", "time", "x", "y"]
def mb_kind_of_1 : SM := sSeq (sFrz 0 (sSet 0 (eLc (.tup [3, 4]) [3, 4] (iA (vVar 0)) (bYes) (vTup (lCons (vNeg (oVar 4)) (lCons (vVar 3) (lNil))))))) (sSeq (sApp 1 (oE (eCall 1 fm_moved (lCons (oVar 0) (lNil))))) (sFrz 0 (sApp 1 (oE (eCall 1 fm_moved (lCons (oE (eLc (.tup [3, 4]) [3, 4] (iA (vVar 0)) (bYes) (vTup (lCons (vNeg (oVar 3)) (lCons (vVar 4) (lNil)))))) (lNil)))))))
def m_kind_of : SM := sSeq (sSet 1 (eLst (lNil))) (sSeq (sFor (.one 2) (iR1 (lCons (oC (.int 4)) (lNil))) (mb_kind_of_1)) (sRet (eL minG (lCons (oVar 1) (lNil)))))
def fm_kind_of : FM := runD N_kind_of m_kind_of
theorem ok_kind_of {P : Program} {w : World} {K : PySem.W.Frag} {mg : Str → Option Value} {base : Heap} {f : Addr} {fd : FuncData} (M : Md K mg) (F : FunD K "kind_of" "kind_of" (defArgs s_kind_of) (defBody s_kind_of) (defScope s_kind_of) [] [] f fd) (hm : mg "kind_of" = some (.ref f)) (h_moved : FnK P w K mg base "moved" 1 1 fm_moved) : FnK P w K mg base "kind_of" 1 2 fm_kind_of :=
  FnK.of (m := m_kind_of) (ps := ["fields"]) (N := N_kind_of) F hm ⟨rfl, rfl, rfl, by decide +kernel, rfl, by decide +kernel, by decide +kernel⟩ (fun _ _ _ _ _ _ us hl => match us, hl with | [_], _ => rfl) fun cdv A outer s H E F0 hr k =>
    (DSs.cons (sL 1 k (DE.lst DLV.nil)) (DSs.cons (DS.for k (passes_of rfl) rfl (DI.range1 rfl M.f_range (DL.cons (DV.toO DV.int) DL.nil)) (tN 2 k.nd) (DSs.cons (DS.frz 0 (DS.setLc (i := 0) (own := [("x", 3), ("y", 4)]) k rfl rfl (by first | exact sw_true rfl rfl rfl rfl | rfl) rfl (DI.any k (vL 0)) (blkOk_by rfl) (fun _ _ _ _ _ => (DG.tup rfl (tC 3 k.nd (tC 4 k.nd DGs.nil)))) (fun _ _ _ _ _ _ _ ki => DTs.nil) (fun _ _ _ _ _ _ _ ki => (DV.tup (DLV.cons (DV.neg (oL 4)) (DLV.cons (vL 3) DLV.nil)))))) (DSs.cons (sAppL 1 (DE.toV (DE.call k h_moved (hr.mono (by decide)) rfl (DL.cons (oL 0) DL.nil)))) (DSs.one (DS.frz 0 (sAppL 1 (DE.toV (DE.call k h_moved (hr.mono (by decide)) rfl (DL.cons (DE.toO (DE.lc (own := [("x", 3), ("y", 4)]) k rfl (DI.any k (vL 0)) (blkOk_by rfl) (fun _ _ _ _ _ => (DG.tup rfl (tC 3 k.nd (tC 4 k.nd DGs.nil)))) (fun _ _ _ _ _ _ _ ki => DTs.nil) (fun _ _ _ _ _ _ _ ki => (DV.tup (DLV.cons (DV.neg (oL 3)) (DLV.cons (vL 4) DLV.nil)))))) DL.nil))))))))) (DSs.one (DS.ret (bMinG k rfl M.f_min (DL.cons (oL 1) DL.nil))))))
abbrev N_kind : List Str := ["piece"]
def m_kind : SM := sSeq (sIf (bNot (bT (oE (eCall 1 fm_is_piece (lCons (oVar 0) (lNil)))))) (sRai "BadPieces") (sSkip)) (sRet (eCall 1 fm_kind_of (lCons (oVar 0) (lNil))))
def fm_kind : FM := runD N_kind m_kind
theorem ok_kind {P : Program} {w : World} {K : PySem.W.Frag} {mg : Str → Option Value} {base : Heap} {f : Addr} {fd : FuncData} (M : Md K mg) (F : FunD K "kind" "kind" (defArgs s_kind) (defBody s_kind) (defScope s_kind) [] [] f fd) (hm : mg "kind" = some (.ref f)) (h_is_piece : FnK P w K mg base "is_piece" 1 3 fm_is_piece) (h_kind_of : FnK P w K mg base "kind_of" 1 2 fm_kind_of) : FnK P w K mg base "kind" 1 4 fm_kind :=
  FnK.of (m := m_kind) (ps := ["piece"]) (N := N_kind) F hm ⟨rfl, rfl, rfl, by decide +kernel, rfl, by decide +kernel, by decide +kernel⟩ (fun _ _ _ _ _ _ us hl => match us, hl with | [_], _ => rfl) fun cdv A outer s H E F0 hr k =>
    (DSs.cons (DS.ite (DB.not (bTru k (DE.toO (DE.call k h_is_piece (hr.mono (by decide)) rfl (DL.cons (oL 0) DL.nil))))) (DSs.one (DS.rai (x := "BadPieces") k rfl M.x_BadPieces rfl)) DSs.nil) (DSs.one (DS.ret (DE.call k h_kind_of (hr.mono (by decide)) rfl (DL.cons (oL 0) DL.nil)))))
abbrev N_kinds_of : List Str := ["some", "found", "piece", "here"]
def mb_kinds_of_1 : SM := sSeq (sSet 3 (eCall 1 fm_kind_of (lCons (oVar 2) (lNil)))) (sFrz 3 (sPut 1 (vVar 3) (oE (e2 addF (oGet (oVar 1) (oVar 3) (oC (.int 0))) (oC (.int 1))))))
def m_kinds_of : SM := sSeq (sSet 1 (eDNew)) (sSeq (sFor (.one 2) (iA (vVar 0)) (mb_kinds_of_1)) (sRet (eSI (oVar 1))))
def fm_kinds_of : FM := runD N_kinds_of m_kinds_of
theorem ok_kinds_of {P : Program} {w : World} {K : PySem.W.Frag} {mg : Str → Option Value} {base : Heap} {f : Addr} {fd : FuncData} (M : Md K mg) (F : FunD K "kinds_of" "kinds_of" (defArgs s_kinds_of) (defBody s_kinds_of) (defScope s_kinds_of) [] [] f fd) (hm : mg "kinds_of" = some (.ref f)) (h_kind_of : FnK P w K mg base "kind_of" 1 2 fm_kind_of) : FnK P w K mg base "kinds_of" 1 3 fm_kinds_of :=
  FnK.of (m := m_kinds_of) (ps := ["some"]) (N := N_kinds_of) F hm ⟨rfl, rfl, rfl, by decide +kernel, rfl, by decide +kernel, by decide +kernel⟩ (fun _ _ _ _ _ _ us hl => match us, hl with | [_], _ => rfl) fun cdv A outer s H E F0 hr k =>
    (DSs.cons (sL 1 k (DE.dnew k)) (DSs.cons (DS.for k (passes_of rfl) rfl (DI.any k (vL 0)) (tN 2 k.nd) (DSs.cons (sL 3 k (DE.call k h_kind_of (hr.mono (by decide)) rfl (DL.cons (oL 2) DL.nil))) (DSs.one (DS.frz 3 (sPutL 1 k (vL 3) (DE.toV (DE.add k (DO.get k (oL 1) (oL 3) (DV.toO DV.int)) (DV.toO DV.int)))))))) (DSs.one (DS.ret (DE.sortItems k rfl (oL 1) M.f_sorted)))))
abbrev N_kinds : List Str := ["sheet", "torn"]
def m_kinds : SM := sSeq (sExp (eCall 2 fm_look_torn (lCons (oVar 0) (lCons (oVar 1) (lNil))))) (sRet (eCall 1 fm_kinds_of (lCons (oE (eCall 2 fm_pieces_of (lCons (oVar 0) (lCons (oVar 1) (lNil))))) (lNil))))
def fm_kinds : FM := runD N_kinds m_kinds
theorem ok_kinds {P : Program} {w : World} {K : PySem.W.Frag} {mg : Str → Option Value} {base : Heap} {f : Addr} {fd : FuncData} (M : Md K mg) (F : FunD K "kinds" "kinds" (defArgs s_kinds) (defBody s_kinds) (defScope s_kinds) [] [] f fd) (hm : mg "kinds" = some (.ref f)) (h_look_torn : FnK P w K mg base "look_torn" 2 6 fm_look_torn) (h_kinds_of : FnK P w K mg base "kinds_of" 1 3 fm_kinds_of) (h_pieces_of : FnK P w K mg base "pieces_of" 2 4 fm_pieces_of) : FnK P w K mg base "kinds" 2 7 fm_kinds :=
  FnK.of (m := m_kinds) (ps := ["sheet", "torn"]) (N := N_kinds) F hm ⟨rfl, rfl, rfl, by decide +kernel, rfl, by decide +kernel, by decide +kernel⟩ (fun _ _ _ _ _ _ us hl => match us, hl with | [_, _], _ => rfl) fun cdv A outer s H E F0 hr k =>
    (DSs.cons (DS.exp (DE.call k h_look_torn (hr.mono (by decide)) rfl (DL.cons (oL 0) (DL.cons (oL 1) DL.nil)))) (DSs.one (DS.ret (DE.call k h_kinds_of (hr.mono (by decide)) rfl (DL.cons (DE.toO (DE.call k h_pieces_of (hr.mono (by decide)) rfl (DL.cons (oL 0) (DL.cons (oL 1) DL.nil)))) DL.nil)))))
abbrev N_first_row : List Str := ["sheet", "torn", "hanging", "pricks", "found", "some", "border", "gone"]
def mb_first_row_1 : SM := sDPop 2 (vVar 6)
def mb_first_row_2 : SM := sSeq (sApp 4 (vI (o2 idxF (o2 idxF (oVar 5) (oC (.int 0))) (oC (.int 0))))) (sSeq (sFor (.one 6) (iA (vI (o2 idxF (oVar 5) (oC (.int 0))))) (mb_first_row_1)) (sSet 5 (eCall 2 fm_tears_of (lCons (oVar 2) (lCons (oVar 3) (lNil))))))
def m_first_row : SM := sSeq (sPar 2 3 (eCall 2 fm_hanging_of (lCons (oVar 0) (lCons (oVar 1) (lNil)))) (eCall 1 fm_pricks_of (lCons (oVar 0) (lNil)))) (sSeq (sSet 4 (eLst (lNil))) (sSeq (sSet 5 (eCall 2 fm_tears_of (lCons (oVar 2) (lCons (oVar 3) (lNil))))) (sSeq (sWhile (bT (oVar 5)) (mb_first_row_2)) (sSeq (sSet 7 (eL tupleF (lCons (oE (eLc (.one 6) [6] (iA (o2 idxF (vVar 0) (oC (.int 1)))) (b2 notInF (oVar 6) (oVar 2)) (vVar 6))) (lNil)))) (sFrz 4 (sRet (eV (vTup (lCons (vVar 4) (lCons (vVar 7) (lNil)))))))))))
def fm_first_row : FM := runD N_first_row m_first_row
theorem ok_first_row {P : Program} {w : World} {K : PySem.W.Frag} {mg : Str → Option Value} {base : Heap} {f : Addr} {fd : FuncData} (M : Md K mg) (F : FunD K "first_row" "first_row" (defArgs s_first_row) (defBody s_first_row) (defScope s_first_row) [] [] f fd) (hm : mg "first_row" = some (.ref f)) (h_hanging_of : FnK P w K mg base "hanging_of" 2 3 fm_hanging_of) (h_pricks_of : FnK P w K mg base "pricks_of" 1 1 fm_pricks_of) (h_tears_of : FnK P w K mg base "tears_of" 2 5 fm_tears_of) : FnK P w K mg base "first_row" 2 6 fm_first_row :=
  FnK.of (m := m_first_row) (ps := ["sheet", "torn"]) (N := N_first_row) F hm ⟨rfl, rfl, rfl, by decide +kernel, rfl, by decide +kernel, by decide +kernel⟩ (fun _ _ _ _ _ _ us hl => match us, hl with | [_, _], _ => rfl) fun cdv A outer s H E F0 hr k =>
    (DSs.cons (DS.parT k rfl (DE.call k h_hanging_of (hr.mono (by decide)) rfl (DL.cons (oL 0) (DL.cons (oL 1) DL.nil))) (fun _ _ kp => (DE.call kp h_pricks_of (hr.mono (by decide)) rfl (DL.cons (oL 0) DL.nil))) (tC 2 k.nd (tC 3 k.nd DGs.nil)) rfl rfl rfl rfl rfl rfl rfl rfl rfl) (DSs.cons (sL 4 k (DE.lst DLV.nil)) (DSs.cons (sL 5 k (DE.call k h_tears_of (hr.mono (by decide)) rfl (DL.cons (oL 2) (DL.cons (oL 3) DL.nil)))) (DSs.cons (DS.while (passes_of rfl) (bTru k (oL 5)) (DSs.cons (sAppL 4 (DV.ofO (oIx k (oIx k (oL 5) (DV.toO DV.int)) (DV.toO DV.int)))) (DSs.cons (DS.for k (passes_of rfl) rfl (DI.any k (DV.ofO (oIx k (oL 5) (DV.toO DV.int)))) (tN 6 k.nd) (DSs.one (sDPopL 2 k (vL 6)))) (DSs.one (sL 5 k (DE.call k h_tears_of (hr.mono (by decide)) rfl (DL.cons (oL 2) (DL.cons (oL 3) DL.nil)))))))) (DSs.cons (sL 7 k (bTuple k rfl M.f_tuple (DL.cons (DE.toO (DE.lc (own := [("border", 6)]) k rfl (DI.any k (vIx k (vL 0) DV.int)) (blkOk_by rfl) (fun _ _ _ _ _ => (tN 6 k.nd)) (fun _ _ _ _ _ _ _ ki => (DTs.one (bNotIn ki (oL 6) (oL 2)))) (fun _ _ _ _ _ _ _ ki => (vL 6)))) DL.nil))) (DSs.one (DS.frz 4 (DS.ret (DV.toE (DV.tup (DLV.cons (vL 4) (DLV.cons (vL 7) DLV.nil))))))))))))
abbrev N_end_torn : List Str := ["sheet"]
def m_end_torn : SM := sRet (eV (o2 idxF (oE (eCallV 2 fm_first_row (lCons (vVar 0) (lCons (vTup (lNil)) (lNil))))) (oC (.int 1))))
def fm_end_torn : FM := runD N_end_torn m_end_torn
theorem ok_end_torn {P : Program} {w : World} {K : PySem.W.Frag} {mg : Str → Option Value} {base : Heap} {f : Addr} {fd : FuncData} (M : Md K mg) (F : FunD K "end_torn" "end_torn" (defArgs s_end_torn) (defBody s_end_torn) (defScope s_end_torn) [] [] f fd) (hm : mg "end_torn" = some (.ref f)) (h_first_row : FnK P w K mg base "first_row" 2 6 fm_first_row) : FnK P w K mg base "end_torn" 1 7 fm_end_torn :=
  FnK.of (m := m_end_torn) (ps := ["sheet"]) (N := N_end_torn) F hm ⟨rfl, rfl, rfl, by decide +kernel, rfl, by decide +kernel, by decide +kernel⟩ (fun _ _ _ _ _ _ us hl => match us, hl with | [_], _ => rfl) fun cdv A outer s H E F0 hr k =>
    (DSs.one (DS.ret (DV.toE (vIx k (DE.toV (DE.callV k h_first_row (hr.mono (by decide)) rfl (DLV.cons (vL 0) (DLV.cons (DV.tup DLV.nil) DLV.nil)))) DV.int))))
abbrev N_end : List Str := ["sheet"]
def m_end : SM := sSeq (sExp (eCall 1 fm_look (lCons (oVar 0) (lNil)))) (sRet (eCall 1 fm_end_torn (lCons (oVar 0) (lNil))))
def fm_end : FM := runD N_end m_end
theorem ok_end {P : Program} {w : World} {K : PySem.W.Frag} {mg : Str → Option Value} {base : Heap} {f : Addr} {fd : FuncData} (M : Md K mg) (F : FunD K "end" "end" (defArgs s_end) (defBody s_end) (defScope s_end) [] [] f fd) (hm : mg "end" = some (.ref f)) (h_look : FnK P w K mg base "look" 1 5 fm_look) (h_end_torn : FnK P w K mg base "end_torn" 1 7 fm_end_torn) : FnK P w K mg base "end" 1 8 fm_end :=
  FnK.of (m := m_end) (ps := ["sheet"]) (N := N_end) F hm ⟨rfl, rfl, rfl, by decide +kernel, rfl, by decide +kernel, by decide +kernel⟩ (fun _ _ _ _ _ _ us hl => match us, hl with | [_], _ => rfl) fun cdv A outer s H E F0 hr k =>
    (DSs.cons (DS.exp (DE.call k h_look (hr.mono (by decide)) rfl (DL.cons (oL 0) DL.nil))) (DSs.one (DS.ret (DE.call k h_end_torn (hr.mono (by decide)) rfl (DL.cons (oL 0) DL.nil)))))
abbrev N_end_kinds : List Str := ["sheet"]
def m_end_kinds : SM := sSeq (sExp (eCall 1 fm_look (lCons (oVar 0) (lNil)))) (sRet (eCall 1 fm_kinds_of (lCons (oE (eCall 2 fm_pieces_of (lCons (oVar 0) (lCons (oE (eCall 1 fm_end_torn (lCons (oVar 0) (lNil)))) (lNil))))) (lNil))))
def fm_end_kinds : FM := runD N_end_kinds m_end_kinds
theorem ok_end_kinds {P : Program} {w : World} {K : PySem.W.Frag} {mg : Str → Option Value} {base : Heap} {f : Addr} {fd : FuncData} (M : Md K mg) (F : FunD K "end_kinds" "end_kinds" (defArgs s_end_kinds) (defBody s_end_kinds) (defScope s_end_kinds) [] [] f fd) (hm : mg "end_kinds" = some (.ref f)) (h_look : FnK P w K mg base "look" 1 5 fm_look) (h_kinds_of : FnK P w K mg base "kinds_of" 1 3 fm_kinds_of) (h_pieces_of : FnK P w K mg base "pieces_of" 2 4 fm_pieces_of) (h_end_torn : FnK P w K mg base "end_torn" 1 7 fm_end_torn) : FnK P w K mg base "end_kinds" 1 8 fm_end_kinds :=
  FnK.of (m := m_end_kinds) (ps := ["sheet"]) (N := N_end_kinds) F hm ⟨rfl, rfl, rfl, by decide +kernel, rfl, by decide +kernel, by decide +kernel⟩ (fun _ _ _ _ _ _ us hl => match us, hl with | [_], _ => rfl) fun cdv A outer s H E F0 hr k =>
    (DSs.cons (DS.exp (DE.call k h_look (hr.mono (by decide)) rfl (DL.cons (oL 0) DL.nil))) (DSs.one (DS.ret (DE.call k h_kinds_of (hr.mono (by decide)) rfl (DL.cons (DE.toO (DE.call k h_pieces_of (hr.mono (by decide)) rfl (DL.cons (oL 0) (DL.cons (DE.toO (DE.call k h_end_torn (hr.mono (by decide)) rfl (DL.cons (oL 0) DL.nil))) DL.nil)))) DL.nil)))))
abbrev N_law_cell : List Str := ["_law_script", "_law_k"]
def m_law_cell : SM := sSeq (sIf (b2 (ltF pLt) (oVar 1) (oE (eL lenF (lCons (oVar 0) (lNil))))) (sRet (eV (o2 idxF (vVar 0) (vVar 1)))) (sSkip)) (sRet (eV (oC (.int 0))))
def fm_law_cell : FM := runD N_law_cell m_law_cell
theorem ok_law_cell {P : Program} {w : World} {K : PySem.W.Frag} {mg : Str → Option Value} {base : Heap} {f : Addr} {fd : FuncData} (M : Md K mg) (F : FunD K "_law_cell" "_law_cell" (defArgs s_law_cell) (defBody s_law_cell) (defScope s_law_cell) [] [] f fd) (hm : mg "_law_cell" = some (.ref f))  : FnK P w K mg base "_law_cell" 2 1 fm_law_cell :=
  FnK.of (m := m_law_cell) (ps := ["_law_script", "_law_k"]) (N := N_law_cell) F hm ⟨rfl, rfl, rfl, by decide +kernel, rfl, by decide +kernel, by decide +kernel⟩ (fun _ _ _ _ _ _ us hl => match us, hl with | [_, _], _ => rfl) fun cdv A outer s H E F0 hr k =>
    (DSs.cons (DS.ite (DB.lt (oL 1) (DE.toO (bLen k M.f_len (DL.cons (oL 0) DL.nil)))) (DSs.one (DS.ret (DV.toE (vIx k (vL 0) (vL 1))))) DSs.nil) (DSs.one (DS.ret (DV.toE DV.int))))
abbrev N_law_row : List Str := ["_law_script", "_law_at", "_law_cell_here", "_law_found", "_law_time"]
def mb_law_row_1 : SM := sIf (b2 (ltF pLt) (oE (eCall 2 fm_law_cell (lCons (oVar 0) (lCons (oVar 1) (lNil))))) (oE (e2 (iF powC fun i j => i ^ j.toNat) (oC (.int 10)) (oC (.int 18))))) (sSeq (sSet 2 (e2 (iF modC fun i j => i % j) (oE (e2 addF (oE (e2 addF (oE (e2 addF (oE (e2 (iF mulC fun i j => i * j) (oVar 2) (oC (.int 48271)))) (oE (e2 (iF mulC fun i j => i * j) (oC (.int 131)) (oVar 4))))) (oC (.int 7)))) (oE (eCall 2 fm_law_cell (lCons (oVar 0) (lCons (oE (e2 (iF modC fun i j => i % j) (oE (e2 addF (oE (e2 addF (oVar 1) (oC (.int 1)))) (oVar 4))) (oC (.int 20)))) (lNil))))))) (oC (.int 2147483647)))) (sApp 3 (oE (e2 (iF modC fun i j => i % j) (oE (e2 (iF divC fun i j => i / j) (oVar 2) (oC (.int 11)))) (oC (.int 1000)))))) (sSeq (sApp 3 (oE (e2 (iF modC fun i j => i % j) (oVar 2) (oC (.int 1000))))) (sSet 2 (e2 (iF divC fun i j => i / j) (oVar 2) (oC (.int 1000)))))
def m_law_row : SM := sSeq (sSet 2 (eCall 2 fm_law_cell (lCons (oVar 0) (lCons (oVar 1) (lNil))))) (sSeq (sSet 3 (eLst (lNil))) (sSeq (sFor (.one 4) (iR1 (lCons (oC (.int 60)) (lNil))) (mb_law_row_1)) (sRetV 3)))
def fm_law_row : FM := runD N_law_row m_law_row
theorem ok_law_row {P : Program} {w : World} {K : PySem.W.Frag} {mg : Str → Option Value} {base : Heap} {f : Addr} {fd : FuncData} (M : Md K mg) (F : FunD K "_law_row" "_law_row" (defArgs s_law_row) (defBody s_law_row) (defScope s_law_row) [] [] f fd) (hm : mg "_law_row" = some (.ref f)) (h_law_cell : FnK P w K mg base "_law_cell" 2 1 fm_law_cell) : FnK P w K mg base "_law_row" 2 2 fm_law_row :=
  FnK.of (m := m_law_row) (ps := ["_law_script", "_law_at"]) (N := N_law_row) F hm ⟨rfl, rfl, rfl, by decide +kernel, rfl, by decide +kernel, by decide +kernel⟩ (fun _ _ _ _ _ _ us hl => match us, hl with | [_, _], _ => rfl) fun cdv A outer s H E F0 hr k =>
    (DSs.cons (sL 2 k (DE.call k h_law_cell (hr.mono (by decide)) rfl (DL.cons (oL 0) (DL.cons (oL 1) DL.nil)))) (DSs.cons (sL 3 k (DE.lst DLV.nil)) (DSs.cons (DS.for k (passes_of rfl) rfl (DI.range1 rfl M.f_range (DL.cons (DV.toO DV.int) DL.nil)) (tN 4 k.nd) (DSs.one (DS.ite (DB.lt (DE.toO (DE.call k h_law_cell (hr.mono (by decide)) rfl (DL.cons (oL 0) (DL.cons (oL 1) DL.nil)))) (DE.toO (DE.pow (DV.toO DV.int) (DV.toO DV.int)))) (DSs.cons (sL 2 k (DE.mod (DE.toO (DE.add k (DE.toO (DE.add k (DE.toO (DE.add k (DE.toO (DE.mul (oL 2) (DV.toO DV.int))) (DE.toO (DE.mul (DV.toO DV.int) (oL 4))))) (DV.toO DV.int))) (DE.toO (DE.call k h_law_cell (hr.mono (by decide)) rfl (DL.cons (oL 0) (DL.cons (DE.toO (DE.mod (DE.toO (DE.add k (DE.toO (DE.add k (oL 1) (DV.toO DV.int))) (oL 4))) (DV.toO DV.int))) DL.nil)))))) (DV.toO DV.int))) (DSs.one (sAppL 3 (DE.toV (DE.mod (DE.toO (DE.fdiv (oL 2) (DV.toO DV.int))) (DV.toO DV.int)))))) (DSs.cons (sAppL 3 (DE.toV (DE.mod (oL 2) (DV.toO DV.int)))) (DSs.one (sL 2 k (DE.fdiv (oL 2) (DV.toO DV.int)))))))) (DSs.one (rV 3)))))
abbrev N_law_sides : List Str := ["_law_field", "_law_x", "_law_y"]
def m_law_sides : SM := sSeq (sUnp [1, 2] (vVar 0)) (sRet (eLst (lCons (vTup (lCons (oE (e2 addF (oVar 1) (oC (.int 1)))) (lCons (vVar 2) (lNil)))) (lCons (vTup (lCons (oE (e2 (iF yes2 fun i j => i - j) (oVar 1) (oC (.int 1)))) (lCons (vVar 2) (lNil)))) (lCons (vTup (lCons (vVar 1) (lCons (oE (e2 addF (oVar 2) (oC (.int 1)))) (lNil)))) (lCons (vTup (lCons (vVar 1) (lCons (oE (e2 (iF yes2 fun i j => i - j) (oVar 2) (oC (.int 1)))) (lNil)))) (lNil)))))))
def fm_law_sides : FM := runD N_law_sides m_law_sides
theorem ok_law_sides {P : Program} {w : World} {K : PySem.W.Frag} {mg : Str → Option Value} {base : Heap} {f : Addr} {fd : FuncData} (M : Md K mg) (F : FunD K "_law_sides" "_law_sides" (defArgs s_law_sides) (defBody s_law_sides) (defScope s_law_sides) [] [] f fd) (hm : mg "_law_sides" = some (.ref f))  : FnK P w K mg base "_law_sides" 1 1 fm_law_sides :=
  FnK.of (m := m_law_sides) (ps := ["_law_field"]) (N := N_law_sides) F hm ⟨rfl, rfl, rfl, by decide +kernel, rfl, by decide +kernel, by decide +kernel⟩ (fun _ _ _ _ _ _ us hl => match us, hl with | [_], _ => rfl) fun cdv A outer s H E F0 hr k =>
    (DSs.cons (DS.unp k rfl (tC 1 k.nd (tC 2 k.nd DGs.nil)) (vL 0)) (DSs.one (DS.ret (DE.lst (DLV.cons (DV.tup (DLV.cons (DE.toV (DE.add k (oL 1) (DV.toO DV.int))) (DLV.cons (vL 2) DLV.nil))) (DLV.cons (DV.tup (DLV.cons (DE.toV (DE.sub (oL 1) (DV.toO DV.int))) (DLV.cons (vL 2) DLV.nil))) (DLV.cons (DV.tup (DLV.cons (vL 1) (DLV.cons (DE.toV (DE.add k (oL 2) (DV.toO DV.int))) DLV.nil))) (DLV.cons (DV.tup (DLV.cons (vL 1) (DLV.cons (DE.toV (DE.sub (oL 2) (DV.toO DV.int))) DLV.nil))) DLV.nil))))))))
abbrev N_law_joined : List Str := ["_law_fields_here", "_law_found", "_law_at", "_law_other"]
def mb_law_joined_1 : SM := sSeq (sSet 1 (e2 addF (oVar 1) (oE (eLc (.one 3) [3] (iA (oE (eCall 1 fm_law_sides (lCons (o2 idxF (oVar 1) (oVar 2)) (lNil))))) (bAnd (b2 inF (oVar 3) (oVar 0)) (b2 notInF (oVar 3) (oVar 1))) (vVar 3))))) (sSet 2 (e2 addF (oVar 2) (oC (.int 1))))
def m_law_joined : SM := sSeq (sSet 1 (eLst (lCons (o2 idxF (vVar 0) (oC (.int 0))) (lNil)))) (sSeq (sSet 2 (eV (oC (.int 0)))) (sSeq (sWhile (b2 (ltF pLt) (oVar 2) (oE (eL lenF (lCons (oVar 1) (lNil))))) (mb_law_joined_1)) (sRet (eV (oB (b2 eqF (oE (eL lenF (lCons (oVar 1) (lNil)))) (oE (eL lenF (lCons (oVar 0) (lNil))))))))))
def fm_law_joined : FM := runD N_law_joined m_law_joined
theorem ok_law_joined {P : Program} {w : World} {K : PySem.W.Frag} {mg : Str → Option Value} {base : Heap} {f : Addr} {fd : FuncData} (M : Md K mg) (F : FunD K "_law_joined" "_law_joined" (defArgs s_law_joined) (defBody s_law_joined) (defScope s_law_joined) [] [] f fd) (hm : mg "_law_joined" = some (.ref f)) (h_law_sides : FnK P w K mg base "_law_sides" 1 1 fm_law_sides) : FnK P w K mg base "_law_joined" 1 2 fm_law_joined :=
  FnK.of (m := m_law_joined) (ps := ["_law_fields_here"]) (N := N_law_joined) F hm ⟨rfl, rfl, rfl, by decide +kernel, rfl, by decide +kernel, by decide +kernel⟩ (fun _ _ _ _ _ _ us hl => match us, hl with | [_], _ => rfl) fun cdv A outer s H E F0 hr k =>
    (DSs.cons (sL 1 k (DE.lst (DLV.cons (vIx k (vL 0) DV.int) DLV.nil))) (DSs.cons (sL 2 k (DV.toE DV.int)) (DSs.cons (DS.while (passes_of rfl) (DB.lt (oL 2) (DE.toO (bLen k M.f_len (DL.cons (oL 1) DL.nil)))) (DSs.cons (sL 1 k (DE.add k (oL 1) (DE.toO (DE.lc (own := [("_law_other", 3)]) k rfl (DI.any k (DE.toV (DE.call k h_law_sides (hr.mono (by decide)) rfl (DL.cons (oIx k (oL 1) (oL 2)) DL.nil)))) (blkOk_by rfl) (fun _ _ _ _ _ => (tN 3 k.nd)) (fun _ _ _ _ _ _ _ ki => (DTs.one (DW.db (DW.and (bIn ki (oL 3) (oL 0)) (DW.and1 (bNotIn ki (oL 3) (oL 1))))))) (fun _ _ _ _ _ _ _ ki => (vL 3)))))) (DSs.one (sL 2 k (DE.add k (oL 2) (DV.toO DV.int)))))) (DSs.one (DS.ret (DV.toE (DV.eq k (DE.toO (bLen k M.f_len (DL.cons (oL 1) DL.nil))) (DE.toO (bLen k M.f_len (DL.cons (oL 0) DL.nil))))))))))
abbrev N_law_inner : List Str := ["_law_fields_here", "_law_found", "_law_x", "_law_y"]
def mb_law_inner_1 : SM := sSeq (sIf (b2 inF (vTup (lCons (vVar 2) (lCons (oE (e2 addF (oVar 3) (oC (.int 1)))) (lNil)))) (oVar 0)) (sApp 1 (vTup (lCons (oC (.str "down")) (lCons (vVar 2) (lCons (vVar 3) (lNil)))))) (sSkip)) (sIf (b2 inF (vTup (lCons (oE (e2 addF (oVar 2) (oC (.int 1)))) (lCons (vVar 3) (lNil)))) (oVar 0)) (sApp 1 (vTup (lCons (oC (.str "right")) (lCons (vVar 2) (lCons (vVar 3) (lNil)))))) (sSkip))
def m_law_inner : SM := sSeq (sSet 1 (eLst (lNil))) (sSeq (sFor (.tup [2, 3]) (iA (vVar 0)) (mb_law_inner_1)) (sRet (eL sortedF (lCons (oVar 1) (lNil)))))
def fm_law_inner : FM := runD N_law_inner m_law_inner
theorem ok_law_inner {P : Program} {w : World} {K : PySem.W.Frag} {mg : Str → Option Value} {base : Heap} {f : Addr} {fd : FuncData} (M : Md K mg) (F : FunD K "_law_inner" "_law_inner" (defArgs s_law_inner) (defBody s_law_inner) (defScope s_law_inner) [] [] f fd) (hm : mg "_law_inner" = some (.ref f))  : FnK P w K mg base "_law_inner" 1 1 fm_law_inner :=
  FnK.of (m := m_law_inner) (ps := ["_law_fields_here"]) (N := N_law_inner) F hm ⟨rfl, rfl, rfl, by decide +kernel, rfl, by decide +kernel, by decide +kernel⟩ (fun _ _ _ _ _ _ us hl => match us, hl with | [_], _ => rfl) fun cdv A outer s H E F0 hr k =>
    (DSs.cons (sL 1 k (DE.lst DLV.nil)) (DSs.cons (DS.for k (passes_of rfl) rfl (DI.any k (vL 0)) (DG.tup rfl (tC 2 k.nd (tC 3 k.nd DGs.nil))) (DSs.cons (DS.ite (bIn k (DV.toO (DV.tup (DLV.cons (vL 2) (DLV.cons (DE.toV (DE.add k (oL 3) (DV.toO DV.int))) DLV.nil)))) (oL 0)) (DSs.one (sAppL 1 (DV.tup (DLV.cons DV.str (DLV.cons (vL 2) (DLV.cons (vL 3) DLV.nil)))))) DSs.nil) (DSs.one (DS.ite (bIn k (DV.toO (DV.tup (DLV.cons (DE.toV (DE.add k (oL 2) (DV.toO DV.int))) (DLV.cons (vL 3) DLV.nil)))) (oL 0)) (DSs.one (sAppL 1 (DV.tup (DLV.cons DV.str (DLV.cons (vL 2) (DLV.cons (vL 3) DLV.nil)))))) DSs.nil)))) (DSs.one (DS.ret (bSorted k rfl M.f_sorted (DL.cons (oL 1) DL.nil))))))
abbrev N_law_fields : List Str := ["_law_draws", "_law_most", "_law_wide", "_law_high", "_law_found", "_law_x", "_law_y", "_law_time", "_law_gone", "_law_less", "_law_field", "_law_here"]
def mb_law_fields_1 : SM := sSet 4 (e2 addF (oVar 4) (oE (eLc (.one 6) [6] (iR1 (lCons (oVar 3) (lNil))) (bYes) (vTup (lCons (vVar 5) (lCons (vVar 6) (lNil)))))))
def mb_law_fields_2 : SM := sSeq (sSet 8 (eV (vI (o2 idxF (oVar 4) (oE (e2 (iF modC fun i j => i % j) (o2 idxF (oVar 0) (oE (e2 addF (oC (.int 4)) (oVar 7)))) (oE (eL lenF (lCons (oVar 4) (lNil)))))))))) (sSeq (sFrz 4 (sSet 9 (eLc (.one 10) [10] (iA (vVar 4)) (b2 neF (oVar 10) (oVar 8)) (vVar 10)))) (sIf (bT (oE (eCall 1 fm_law_joined (lCons (oVar 9) (lNil))))) (sFrz 9 (sSet 4 (eV (vVar 9)))) (sSkip)))
def mb_law_fields_3 : SM := sSeq (sSet 11 (eV (vI (o2 idxF (oVar 4) (oE (e2 (iF modC fun i j => i % j) (o2 idxF (oVar 0) (oE (e2 addF (oC (.int 2)) (oVar 7)))) (oE (eL lenF (lCons (oVar 4) (lNil)))))))))) (sSeq (sUnp [5, 6] (vI (o2 idxF (oE (eCall 1 fm_law_sides (lCons (oVar 11) (lNil)))) (oE (e2 (iF modC fun i j => i % j) (o2 idxF (oVar 0) (oE (e2 addF (oC (.int 15)) (oVar 7)))) (oC (.int 4))))))) (sIf (bAnd (bChain (ltF pLe) (ltF pLe) (oC (.int 0)) (oVar 5) (oC (.int 5))) (bAnd (bChain (ltF pLe) (ltF pLe) (oC (.int 0)) (oVar 6) (oC (.int 5))) (b2 notInF (vTup (lCons (vVar 5) (lCons (vVar 6) (lNil)))) (oVar 4)))) (sApp 4 (vTup (lCons (vVar 5) (lCons (vVar 6) (lNil))))) (sSkip)))
def m_law_fields : SM := sSeq (sIf (b2 eqF (oE (e2 (iF modC fun i j => i % j) (o2 idxF (oVar 0) (oC (.int 0))) (oC (.int 3)))) (oC (.int 0))) (sSeq (sSet 2 (e2 addF (oC (.int 2)) (oE (e2 (iF modC fun i j => i % j) (o2 idxF (oVar 0) (oC (.int 1))) (oC (.int 3)))))) (sSeq (sSet 3 (e2 addF (oC (.int 2)) (oE (e2 (iF modC fun i j => i % j) (o2 idxF (oVar 0) (oC (.int 2))) (mIf (b2 (ltF pLt) (oVar 2) (oC (.int 4))) (oC (.int 3)) (oC (.int 2))))))) (sSeq (sSet 4 (eLst (lNil))) (sSeq (sFor (.one 5) (iR1 (lCons (oVar 2) (lNil))) (mb_law_fields_1)) (sSeq (sFor (.one 7) (iR1 (lCons (oE (e2 (iF modC fun i j => i % j) (o2 idxF (oVar 0) (oC (.int 3))) (oC (.int 3)))) (lNil))) (mb_law_fields_2)) (sRet (mIf (bT (oE (eCall 1 fm_law_joined (lCons (oE (eSlc (oVar 4) (pNo) (pSome (oE (eL maxF2 (lCons (oVar 1) (lCons (oC (.int 6)) (lNil)))))))) (lNil))))) (eL tupleF (lCons (oE (eL sortedF (lCons (oE (eSlc (oVar 4) (pNo) (pSome (oE (eL maxF2 (lCons (oVar 1) (lCons (oC (.int 6)) (lNil)))))))) (lNil)))) (lNil))) (eV (vTup (lCons (vTup (lCons (oC (.int 0)) (lCons (oC (.int 0)) (lNil)))) (lNil))))))))))) (sSkip)) (sSeq (sSet 4 (eLst (lCons (vTup (lCons (oC (.int 2)) (lCons (oC (.int 2)) (lNil)))) (lNil)))) (sSeq (sFor (.one 7) (iR1 (lCons (oE (e2 (iF modC fun i j => i % j) (o2 idxF (oVar 0) (oC (.int 1))) (oVar 1))) (lNil))) (mb_law_fields_3)) (sRet (eL tupleF (lCons (oE (eL sortedF (lCons (oVar 4) (lNil)))) (lNil))))))
def fm_law_fields : FM := runD N_law_fields m_law_fields
theorem ok_law_fields {P : Program} {w : World} {K : PySem.W.Frag} {mg : Str → Option Value} {base : Heap} {f : Addr} {fd : FuncData} (M : Md K mg) (F : FunD K "_law_fields" "_law_fields" (defArgs s_law_fields) (defBody s_law_fields) (defScope s_law_fields) [] [] f fd) (hm : mg "_law_fields" = some (.ref f)) (h_law_joined : FnK P w K mg base "_law_joined" 1 2 fm_law_joined) (h_law_sides : FnK P w K mg base "_law_sides" 1 1 fm_law_sides) : FnK P w K mg base "_law_fields" 2 3 fm_law_fields :=
  FnK.of (m := m_law_fields) (ps := ["_law_draws", "_law_most"]) (N := N_law_fields) F hm ⟨rfl, rfl, rfl, by decide +kernel, rfl, by decide +kernel, by decide +kernel⟩ (fun _ _ _ _ _ _ us hl => match us, hl with | [_, _], _ => rfl) fun cdv A outer s H E F0 hr k =>
    (DSs.cons (DS.ite (DB.eq k (DE.toO (DE.mod (oIx k (oL 0) (DV.toO DV.int)) (DV.toO DV.int))) (DV.toO DV.int)) (DSs.cons (sL 2 k (DE.add k (DV.toO DV.int) (DE.toO (DE.mod (oIx k (oL 0) (DV.toO DV.int)) (DV.toO DV.int))))) (DSs.cons (sL 3 k (DE.add k (DV.toO DV.int) (DE.toO (DE.mod (oIx k (oL 0) (DV.toO DV.int)) (DV.toO (DV.ife (DB.lt (oL 2) (DV.toO DV.int)) DV.int DV.int)))))) (DSs.cons (sL 4 k (DE.lst DLV.nil)) (DSs.cons (DS.for k (passes_of rfl) rfl (DI.range1 rfl M.f_range (DL.cons (oL 2) DL.nil)) (tN 5 k.nd) (DSs.one (sL 4 k (DE.add k (oL 4) (DE.toO (DE.lc (own := [("_law_y", 6)]) k rfl (DI.range1 rfl M.f_range (DL.cons (oL 3) DL.nil)) (blkOk_by rfl) (fun _ _ _ _ _ => (tN 6 k.nd)) (fun _ _ _ _ _ _ _ ki => DTs.nil) (fun _ _ _ _ _ _ _ ki => (DV.tup (DLV.cons (vL 5) (DLV.cons (vL 6) DLV.nil)))))))))) (DSs.cons (DS.for k (passes_of rfl) rfl (DI.range1 rfl M.f_range (DL.cons (DE.toO (DE.mod (oIx k (oL 0) (DV.toO DV.int)) (DV.toO DV.int))) DL.nil)) (tN 7 k.nd) (DSs.cons (sL 8 k (DV.toE (DV.ofO (oIx k (oL 4) (DE.toO (DE.mod (oIx k (oL 0) (DE.toO (DE.add k (DV.toO DV.int) (oL 7)))) (DE.toO (bLen k M.f_len (DL.cons (oL 4) DL.nil))))))))) (DSs.cons (DS.frz 4 (DS.setLc (i := 9) (own := [("_law_field", 10)]) k rfl rfl (by first | exact sw_true rfl rfl rfl rfl | rfl) rfl (DI.any k (vL 4)) (blkOk_by rfl) (fun _ _ _ _ _ => (tN 10 k.nd)) (fun _ _ _ _ _ _ _ ki => (DTs.one (DB.ne ki (oL 10) (oL 8)))) (fun _ _ _ _ _ _ _ ki => (vL 10)))) (DSs.one (DS.ite (bTru k (DE.toO (DE.call k h_law_joined (hr.mono (by decide)) rfl (DL.cons (oL 9) DL.nil)))) (DSs.one (DS.frz 9 (sL 4 k (DV.toE (vL 9))))) DSs.nil))))) (DSs.one (DS.ret (DE.ife (bTru k (DE.toO (DE.call k h_law_joined (hr.mono (by decide)) rfl (DL.cons (DE.toO (DE.slc k (oL 4) DP.no (DP.yes (DE.toO (bMax2 k rfl M.f_max (DL.cons (oL 1) (DL.cons (DV.toO DV.int) DL.nil))))))) DL.nil)))) (bTuple k rfl M.f_tuple (DL.cons (DE.toO (bSorted k rfl M.f_sorted (DL.cons (DE.toO (DE.slc k (oL 4) DP.no (DP.yes (DE.toO (bMax2 k rfl M.f_max (DL.cons (oL 1) (DL.cons (DV.toO DV.int) DL.nil))))))) DL.nil))) DL.nil)) (DV.toE (DV.tup (DLV.cons (DV.tup (DLV.cons DV.int (DLV.cons DV.int DLV.nil))) DLV.nil))))))))))) DSs.nil) (DSs.cons (sL 4 k (DE.lst (DLV.cons (DV.tup (DLV.cons DV.int (DLV.cons DV.int DLV.nil))) DLV.nil))) (DSs.cons (DS.for k (passes_of rfl) rfl (DI.range1 rfl M.f_range (DL.cons (DE.toO (DE.mod (oIx k (oL 0) (DV.toO DV.int)) (oL 1))) DL.nil)) (tN 7 k.nd) (DSs.cons (sL 11 k (DV.toE (DV.ofO (oIx k (oL 4) (DE.toO (DE.mod (oIx k (oL 0) (DE.toO (DE.add k (DV.toO DV.int) (oL 7)))) (DE.toO (bLen k M.f_len (DL.cons (oL 4) DL.nil))))))))) (DSs.cons (DS.unp k rfl (tC 5 k.nd (tC 6 k.nd DGs.nil)) (DV.ofO (oIx k (DE.toO (DE.call k h_law_sides (hr.mono (by decide)) rfl (DL.cons (oL 11) DL.nil))) (DE.toO (DE.mod (oIx k (oL 0) (DE.toO (DE.add k (DV.toO DV.int) (oL 7)))) (DV.toO DV.int)))))) (DSs.one (DS.ite (DW.db (DW.and (bLeLe (DV.toO DV.int) (oL 5) (DV.toO DV.int)) (DW.and (bLeLe (DV.toO DV.int) (oL 6) (DV.toO DV.int)) (DW.and1 (bNotIn k (DV.toO (DV.tup (DLV.cons (vL 5) (DLV.cons (vL 6) DLV.nil)))) (oL 4)))))) (DSs.one (sAppL 4 (DV.tup (DLV.cons (vL 5) (DLV.cons (vL 6) DLV.nil))))) DSs.nil))))) (DSs.one (DS.ret (bTuple k rfl M.f_tuple (DL.cons (DE.toO (bSorted k rfl M.f_sorted (DL.cons (oL 4) DL.nil))) DL.nil)))))))
abbrev N_law_sheet : List Str := ["_law_script", "_law_at", "_law_most", "_law_draws", "_law_fields_here", "_law_inner_here", "_law_way", "_law_pricks", "_law_spot", "_law_one"]
def m_law_sheet : SM := sSeq (sSet 3 (eCall 2 fm_law_row (lCons (oVar 0) (lCons (oVar 1) (lNil))))) (sSeq (sSet 4 (eCall 2 fm_law_fields (lCons (oVar 3) (lCons (oVar 2) (lNil))))) (sSeq (sSet 5 (eCall 1 fm_law_inner (lCons (oVar 4) (lNil)))) (sSeq (sSet 6 (e2 (iF modC fun i j => i % j) (o2 idxF (oVar 3) (oC (.int 58))) (oC (.int 4)))) (sSeq (sFrz 5 (sSet 7 (eLc (.tup [8, 9]) [8, 9] (iEn (lCons (vVar 5) (lNil))) (bOr (b2 (ltF pLt) (oVar 6) (oC (.int 2))) (b2 (ltF pGt) (oE (e2 (iF modC fun i j => i % j) (o2 idxF (oVar 3) (oE (e2 (iF modC fun i j => i % j) (oE (e2 addF (oC (.int 28)) (oVar 8))) (oC (.int 60))))) (o2 idxF (oE (eLst (lCons (oC (.int 9)) (lCons (oC (.int 9)) (lCons (oC (.int 7)) (lCons (oC (.int 3)) (lNil))))))) (oVar 6)))) (oC (.int 0)))) (vVar 9)))) (sFrz 4 (sRet (eV (vTup (lCons (vVar 4) (lCons (oE (eL tupleF (lCons (oVar 7) (lNil)))) (lNil)))))))))))
def fm_law_sheet : FM := runD N_law_sheet m_law_sheet
theorem ok_law_sheet {P : Program} {w : World} {K : PySem.W.Frag} {mg : Str → Option Value} {base : Heap} {f : Addr} {fd : FuncData} (M : Md K mg) (F : FunD K "_law_sheet" "_law_sheet" (defArgs s_law_sheet) (defBody s_law_sheet) (defScope s_law_sheet) [] [] f fd) (hm : mg "_law_sheet" = some (.ref f)) (h_law_row : FnK P w K mg base "_law_row" 2 2 fm_law_row) (h_law_fields : FnK P w K mg base "_law_fields" 2 3 fm_law_fields) (h_law_inner : FnK P w K mg base "_law_inner" 1 1 fm_law_inner) : FnK P w K mg base "_law_sheet" 3 4 fm_law_sheet :=
  FnK.of (m := m_law_sheet) (ps := ["_law_script", "_law_at", "_law_most"]) (N := N_law_sheet) F hm ⟨rfl, rfl, rfl, by decide +kernel, rfl, by decide +kernel, by decide +kernel⟩ (fun _ _ _ _ _ _ us hl => match us, hl with | [_, _, _], _ => rfl) fun cdv A outer s H E F0 hr k =>
    (DSs.cons (sL 3 k (DE.call k h_law_row (hr.mono (by decide)) rfl (DL.cons (oL 0) (DL.cons (oL 1) DL.nil)))) (DSs.cons (sL 4 k (DE.call k h_law_fields (hr.mono (by decide)) rfl (DL.cons (oL 3) (DL.cons (oL 2) DL.nil)))) (DSs.cons (sL 5 k (DE.call k h_law_inner (hr.mono (by decide)) rfl (DL.cons (oL 4) DL.nil))) (DSs.cons (sL 6 k (DE.mod (oIx k (oL 3) (DV.toO DV.int)) (DV.toO DV.int))) (DSs.cons (DS.frz 5 (DS.setLc (i := 7) (own := [("_law_spot", 8), ("_law_one", 9)]) k rfl rfl (by first | exact sw_true rfl rfl rfl rfl | rfl) rfl (DI.enum k rfl M.f_enumerate (DLV.cons (vL 5) DLV.nil)) (blkOk_by rfl) (fun _ _ _ _ _ => (DG.tup rfl (tC 8 k.nd (tC 9 k.nd DGs.nil)))) (fun _ _ _ _ _ _ _ ki => (DTs.one (DW.db (DW.or (DB.lt (oL 6) (DV.toO DV.int)) (DW.or1 (DB.gt (DE.toO (DE.mod (oIx ki (oL 3) (DE.toO (DE.mod (DE.toO (DE.add ki (DV.toO DV.int) (oL 8))) (DV.toO DV.int)))) (oIx ki (DE.toO (DE.lst (DLV.cons DV.int (DLV.cons DV.int (DLV.cons DV.int (DLV.cons DV.int DLV.nil)))))) (oL 6)))) (DV.toO DV.int))))))) (fun _ _ _ _ _ _ _ ki => (vL 9)))) (DSs.one (DS.frz 4 (DS.ret (DV.toE (DV.tup (DLV.cons (vL 4) (DLV.cons (DE.toV (bTuple k rfl M.f_tuple (DL.cons (oL 7) DL.nil))) DLV.nil))))))))))))
abbrev N_law_hang : List Str := ["_law_sheet_here", "_law_torn_here", "_law_border"]
def m_law_hang : SM := sRet (eLc (.one 2) [2] (iA (oE (eCall 1 fm_law_inner (lCons (o2 idxF (oVar 0) (oC (.int 0))) (lNil))))) (b2 notInF (oVar 2) (oVar 1)) (vVar 2))
def fm_law_hang : FM := runD N_law_hang m_law_hang
theorem ok_law_hang {P : Program} {w : World} {K : PySem.W.Frag} {mg : Str → Option Value} {base : Heap} {f : Addr} {fd : FuncData} (M : Md K mg) (F : FunD K "_law_hang" "_law_hang" (defArgs s_law_hang) (defBody s_law_hang) (defScope s_law_hang) [] [] f fd) (hm : mg "_law_hang" = some (.ref f)) (h_law_inner : FnK P w K mg base "_law_inner" 1 1 fm_law_inner) : FnK P w K mg base "_law_hang" 2 2 fm_law_hang :=
  FnK.of (m := m_law_hang) (ps := ["_law_sheet_here", "_law_torn_here"]) (N := N_law_hang) F hm ⟨rfl, rfl, rfl, by decide +kernel, rfl, by decide +kernel, by decide +kernel⟩ (fun _ _ _ _ _ _ us hl => match us, hl with | [_, _], _ => rfl) fun cdv A outer s H E F0 hr k =>
    (DSs.one (DS.ret (DE.lc (own := [("_law_border", 2)]) k rfl (DI.any k (DE.toV (DE.call k h_law_inner (hr.mono (by decide)) rfl (DL.cons (oIx k (oL 0) (DV.toO DV.int)) DL.nil)))) (blkOk_by rfl) (fun _ _ _ _ _ => (tN 2 k.nd)) (fun _ _ _ _ _ _ _ ki => (DTs.one (bNotIn ki (oL 2) (oL 1)))) (fun _ _ _ _ _ _ _ ki => (vL 2)))))
abbrev N_law_full : List Str := ["_law_hanging", "_law_x", "_law_y", "_law_four", "_law_border"]
def m_law_full : SM := sSeq (sSet 3 (eLst (lCons (vTup (lCons (oC (.str "right")) (lCons (vVar 1) (lCons (vVar 2) (lNil))))) (lCons (vTup (lCons (oC (.str "right")) (lCons (vVar 1) (lCons (oE (e2 addF (oVar 2) (oC (.int 1)))) (lNil))))) (lCons (vTup (lCons (oC (.str "down")) (lCons (vVar 1) (lCons (vVar 2) (lNil))))) (lCons (vTup (lCons (oC (.str "down")) (lCons (oE (e2 addF (oVar 1) (oC (.int 1)))) (lCons (vVar 2) (lNil))))) (lNil))))))) (sFrz 3 (sRet (eV (oB (b2 eqF (oE (eLc (.one 4) [4] (iA (vVar 3)) (b2 notInF (oVar 4) (oVar 0)) (vVar 4))) (oE (eLst (lNil))))))))
def fm_law_full : FM := runD N_law_full m_law_full
theorem ok_law_full {P : Program} {w : World} {K : PySem.W.Frag} {mg : Str → Option Value} {base : Heap} {f : Addr} {fd : FuncData} (M : Md K mg) (F : FunD K "_law_full" "_law_full" (defArgs s_law_full) (defBody s_law_full) (defScope s_law_full) [] [] f fd) (hm : mg "_law_full" = some (.ref f))  : FnK P w K mg base "_law_full" 3 1 fm_law_full :=
  FnK.of (m := m_law_full) (ps := ["_law_hanging", "_law_x", "_law_y"]) (N := N_law_full) F hm ⟨rfl, rfl, rfl, by decide +kernel, rfl, by decide +kernel, by decide +kernel⟩ (fun _ _ _ _ _ _ us hl => match us, hl with | [_, _, _], _ => rfl) fun cdv A outer s H E F0 hr k =>
    (DSs.cons (sL 3 k (DE.lst (DLV.cons (DV.tup (DLV.cons DV.str (DLV.cons (vL 1) (DLV.cons (vL 2) DLV.nil)))) (DLV.cons (DV.tup (DLV.cons DV.str (DLV.cons (vL 1) (DLV.cons (DE.toV (DE.add k (oL 2) (DV.toO DV.int))) DLV.nil)))) (DLV.cons (DV.tup (DLV.cons DV.str (DLV.cons (vL 1) (DLV.cons (vL 2) DLV.nil)))) (DLV.cons (DV.tup (DLV.cons DV.str (DLV.cons (DE.toV (DE.add k (oL 1) (DV.toO DV.int))) (DLV.cons (vL 2) DLV.nil)))) DLV.nil)))))) (DSs.one (DS.frz 3 (DS.ret (DV.toE (DV.eq k (DE.toO (DE.lc (own := [("_law_border", 4)]) k rfl (DI.any k (vL 3)) (blkOk_by rfl) (fun _ _ _ _ _ => (tN 4 k.nd)) (fun _ _ _ _ _ _ _ ki => (DTs.one (bNotIn ki (oL 4) (oL 0)))) (fun _ _ _ _ _ _ _ ki => (vL 4)))) (DE.toO (DE.lst DLV.nil))))))))
abbrev N_law_tear : List Str := ["_law_sheet_here", "_law_hanging", "_law_border", "_law_found", "_law_way", "_law_word", "_law_x", "_law_y", "_law_more", "_law_corner", "_law_one"]
def mb_law_tear_1 : SM := sSeq (sSet 9 (eV (mIf (b2 (ltF pGt) (oVar 4) (oC (.int 0))) (vTup (lCons (vVar 6) (lCons (vVar 7) (lNil)))) (mIf (b2 eqF (oVar 5) (oC (.str "right"))) (vTup (lCons (vVar 6) (lCons (oE (e2 (iF yes2 fun i j => i - j) (oVar 7) (oC (.int 1)))) (lNil)))) (vTup (lCons (oE (e2 (iF yes2 fun i j => i - j) (oVar 6) (oC (.int 1)))) (lCons (vVar 7) (lNil)))))))) (sSeq (sSet 8 (eCall 3 fm_law_full (lCons (oVar 1) (lCons (o2 idxF (oVar 9) (oC (.int 0))) (lCons (o2 idxF (oVar 9) (oC (.int 1))) (lNil)))))) (sIf (bT (oVar 8)) (sSeq (sUnp [6, 7] (mIf (b2 eqF (oVar 5) (oC (.str "right"))) (vTup (lCons (vVar 6) (lCons (oE (e2 addF (oVar 7) (oVar 4))) (lNil)))) (vTup (lCons (oE (e2 addF (oVar 6) (oVar 4))) (lCons (vVar 7) (lNil)))))) (sApp 3 (vTup (lCons (vVar 5) (lCons (vVar 6) (lCons (vVar 7) (lNil))))))) (sSkip)))
def mb_law_tear_2 : SM := sSeq (sUnp [5, 6, 7] (vVar 2)) (sSeq (sSet 8 (eV (oC (.bool true)))) (sWhile (bT (oVar 8)) (mb_law_tear_1)))
def m_law_tear : SM := sSeq (sIf (b2 notInF (oVar 2) (oVar 1)) (sRet (eV (oC .none))) (sSkip)) (sSeq (sSet 3 (eLst (lCons (vVar 2) (lNil)))) (sSeq (sFor (.one 4) (iA (vTup (lCons (oC (.int 1)) (lCons (vNeg (oC (.int 1))) (lNil))))) (mb_law_tear_2)) (sSeq (sFrz 3 (sIf (b2 neF (oE (eLc (.one 10) [10] (iA (vVar 3)) (b2 notInF (oVar 10) (o2 idxF (oVar 0) (oC (.int 1)))) (vVar 10))) (oE (eLst (lNil)))) (sRet (eV (oC .none))) (sSkip))) (sRet (eL tupleF (lCons (oE (eL sortedF (lCons (oVar 3) (lNil)))) (lNil)))))))
def fm_law_tear : FM := runD N_law_tear m_law_tear
theorem ok_law_tear {P : Program} {w : World} {K : PySem.W.Frag} {mg : Str → Option Value} {base : Heap} {f : Addr} {fd : FuncData} (M : Md K mg) (F : FunD K "_law_tear" "_law_tear" (defArgs s_law_tear) (defBody s_law_tear) (defScope s_law_tear) [] [] f fd) (hm : mg "_law_tear" = some (.ref f)) (h_law_full : FnK P w K mg base "_law_full" 3 1 fm_law_full) : FnK P w K mg base "_law_tear" 3 2 fm_law_tear :=
  FnK.of (m := m_law_tear) (ps := ["_law_sheet_here", "_law_hanging", "_law_border"]) (N := N_law_tear) F hm ⟨rfl, rfl, rfl, by decide +kernel, rfl, by decide +kernel, by decide +kernel⟩ (fun _ _ _ _ _ _ us hl => match us, hl with | [_, _, _], _ => rfl) fun cdv A outer s H E F0 hr k =>
    (DSs.cons (DS.ite (bNotIn k (oL 2) (oL 1)) (DSs.one (DS.ret (DV.toE DV.non))) DSs.nil) (DSs.cons (sL 3 k (DE.lst (DLV.cons (vL 2) DLV.nil))) (DSs.cons (DS.for k (passes_of rfl) rfl (DI.any k (DV.tup (DLV.cons DV.int (DLV.cons (DV.neg (DV.toO DV.int)) DLV.nil)))) (tN 4 k.nd) (DSs.cons (DS.unp k rfl (tC 5 k.nd (tC 6 k.nd (tC 7 k.nd DGs.nil))) (vL 2)) (DSs.cons (sL 8 k (DV.toE DV.bl)) (DSs.one (DS.while (passes_of rfl) (bTru k (oL 8)) (DSs.cons (sL 9 k (DV.toE (DV.ife (DB.gt (oL 4) (DV.toO DV.int)) (DV.tup (DLV.cons (vL 6) (DLV.cons (vL 7) DLV.nil))) (DV.ife (DB.eq k (oL 5) (DV.toO DV.str)) (DV.tup (DLV.cons (vL 6) (DLV.cons (DE.toV (DE.sub (oL 7) (DV.toO DV.int))) DLV.nil))) (DV.tup (DLV.cons (DE.toV (DE.sub (oL 6) (DV.toO DV.int))) (DLV.cons (vL 7) DLV.nil))))))) (DSs.cons (sL 8 k (DE.call k h_law_full (hr.mono (by decide)) rfl (DL.cons (oL 1) (DL.cons (oIx k (oL 9) (DV.toO DV.int)) (DL.cons (oIx k (oL 9) (DV.toO DV.int)) DL.nil))))) (DSs.one (DS.ite (bTru k (oL 8)) (DSs.cons (DS.unp k rfl (tC 6 k.nd (tC 7 k.nd DGs.nil)) (DV.ife (DB.eq k (oL 5) (DV.toO DV.str)) (DV.tup (DLV.cons (vL 6) (DLV.cons (DE.toV (DE.add k (oL 7) (oL 4))) DLV.nil))) (DV.tup (DLV.cons (DE.toV (DE.add k (oL 6) (oL 4))) (DLV.cons (vL 7) DLV.nil))))) (DSs.one (sAppL 3 (DV.tup (DLV.cons (vL 5) (DLV.cons (vL 6) (DLV.cons (vL 7) DLV.nil))))))) DSs.nil))))))))) (DSs.cons (DS.frz 3 (DS.ite (DB.ne k (DE.toO (DE.lc (own := [("_law_one", 10)]) k rfl (DI.any k (vL 3)) (blkOk_by rfl) (fun _ _ _ _ _ => (tN 10 k.nd)) (fun _ _ _ _ _ _ _ ki => (DTs.one (bNotIn ki (oL 10) (oIx ki (oL 0) (DV.toO DV.int))))) (fun _ _ _ _ _ _ _ ki => (vL 10)))) (DE.toO (DE.lst DLV.nil))) (DSs.one (DS.ret (DV.toE DV.non))) DSs.nil)) (DSs.one (DS.ret (bTuple k rfl M.f_tuple (DL.cons (DE.toO (bSorted k rfl M.f_sorted (DL.cons (oL 3) DL.nil))) DL.nil))))))))
abbrev N_law_tears : List Str := ["_law_sheet_here", "_law_torn_here", "_law_hanging", "_law_found", "_law_border", "_law_tear_here"]
def mb_law_tears_1 : SM := sSeq (sSet 5 (eCall 3 fm_law_tear (lCons (oVar 0) (lCons (oVar 2) (lCons (oVar 4) (lNil)))))) (sIf (bAnd (b2 notNF (oVar 5) (oC .none)) (b2 notInF (oVar 5) (oVar 3))) (sFrz 5 (sApp 3 (vVar 5))) (sSkip))
def m_law_tears : SM := sSeq (sSet 2 (eCall 2 fm_law_hang (lCons (oVar 0) (lCons (oVar 1) (lNil))))) (sSeq (sSet 3 (eLst (lNil))) (sSeq (sFor (.one 4) (iA (o2 idxF (vVar 0) (oC (.int 1)))) (mb_law_tears_1)) (sRet (eL sortedF (lCons (oVar 3) (lNil))))))
def fm_law_tears : FM := runD N_law_tears m_law_tears
theorem ok_law_tears {P : Program} {w : World} {K : PySem.W.Frag} {mg : Str → Option Value} {base : Heap} {f : Addr} {fd : FuncData} (M : Md K mg) (F : FunD K "_law_tears" "_law_tears" (defArgs s_law_tears) (defBody s_law_tears) (defScope s_law_tears) [] [] f fd) (hm : mg "_law_tears" = some (.ref f)) (h_law_hang : FnK P w K mg base "_law_hang" 2 2 fm_law_hang) (h_law_tear : FnK P w K mg base "_law_tear" 3 2 fm_law_tear) : FnK P w K mg base "_law_tears" 2 3 fm_law_tears :=
  FnK.of (m := m_law_tears) (ps := ["_law_sheet_here", "_law_torn_here"]) (N := N_law_tears) F hm ⟨rfl, rfl, rfl, by decide +kernel, rfl, by decide +kernel, by decide +kernel⟩ (fun _ _ _ _ _ _ us hl => match us, hl with | [_, _], _ => rfl) fun cdv A outer s H E F0 hr k =>
    (DSs.cons (sL 2 k (DE.call k h_law_hang (hr.mono (by decide)) rfl (DL.cons (oL 0) (DL.cons (oL 1) DL.nil)))) (DSs.cons (sL 3 k (DE.lst DLV.nil)) (DSs.cons (DS.for k (passes_of rfl) rfl (DI.any k (vIx k (vL 0) DV.int)) (tN 4 k.nd) (DSs.cons (sL 5 k (DE.call k h_law_tear (hr.mono (by decide)) rfl (DL.cons (oL 0) (DL.cons (oL 2) (DL.cons (oL 4) DL.nil))))) (DSs.one (DS.ite (DW.db (DW.and (DB.notN (oL 5) (DV.toO DV.non)) (DW.and1 (bNotIn k (oL 5) (oL 3))))) (DSs.one (DS.frz 5 (sAppL 3 (vL 5)))) DSs.nil)))) (DSs.one (DS.ret (bSorted k rfl M.f_sorted (DL.cons (oL 3) DL.nil)))))))
abbrev N_law_torn : List Str := ["_law_script", "_law_at", "_law_sheet_here", "_law_draws", "_law_torn_here", "_law_time", "_law_some"]
def mb_law_torn_1 : SM := sSeq (sSet 6 (eCall 2 fm_law_tears (lCons (oVar 2) (lCons (oVar 4) (lNil))))) (sIf (b2 neF (oVar 6) (oE (eLst (lNil)))) (sSet 4 (eL tupleF (lCons (oE (eL sortedF (lCons (oE (e2 addF (oVar 4) (o2 idxF (oVar 6) (oE (e2 (iF modC fun i j => i % j) (o2 idxF (oVar 3) (oE (e2 addF (oC (.int 1)) (oVar 5)))) (oE (eL lenF (lCons (oVar 6) (lNil))))))))) (lNil)))) (lNil)))) (sSkip))
def m_law_torn : SM := sSeq (sSet 3 (eCall 2 fm_law_row (lCons (oVar 0) (lCons (oVar 1) (lNil))))) (sSeq (sSet 4 (eV (vTup (lNil)))) (sSeq (sFor (.one 5) (iR1 (lCons (oE (e2 (iF modC fun i j => i % j) (o2 idxF (oVar 3) (oC (.int 0))) (oC (.int 6)))) (lNil))) (mb_law_torn_1)) (sRetV 4)))
def fm_law_torn : FM := runD N_law_torn m_law_torn
theorem ok_law_torn {P : Program} {w : World} {K : PySem.W.Frag} {mg : Str → Option Value} {base : Heap} {f : Addr} {fd : FuncData} (M : Md K mg) (F : FunD K "_law_torn" "_law_torn" (defArgs s_law_torn) (defBody s_law_torn) (defScope s_law_torn) [] [] f fd) (hm : mg "_law_torn" = some (.ref f)) (h_law_row : FnK P w K mg base "_law_row" 2 2 fm_law_row) (h_law_tears : FnK P w K mg base "_law_tears" 2 3 fm_law_tears) : FnK P w K mg base "_law_torn" 3 4 fm_law_torn :=
  FnK.of (m := m_law_torn) (ps := ["_law_script", "_law_at", "_law_sheet_here"]) (N := N_law_torn) F hm ⟨rfl, rfl, rfl, by decide +kernel, rfl, by decide +kernel, by decide +kernel⟩ (fun _ _ _ _ _ _ us hl => match us, hl with | [_, _, _], _ => rfl) fun cdv A outer s H E F0 hr k =>
    (DSs.cons (sL 3 k (DE.call k h_law_row (hr.mono (by decide)) rfl (DL.cons (oL 0) (DL.cons (oL 1) DL.nil)))) (DSs.cons (sL 4 k (DV.toE (DV.tup DLV.nil))) (DSs.cons (DS.for k (passes_of rfl) rfl (DI.range1 rfl M.f_range (DL.cons (DE.toO (DE.mod (oIx k (oL 3) (DV.toO DV.int)) (DV.toO DV.int))) DL.nil)) (tN 5 k.nd) (DSs.cons (sL 6 k (DE.call k h_law_tears (hr.mono (by decide)) rfl (DL.cons (oL 2) (DL.cons (oL 4) DL.nil)))) (DSs.one (DS.ite (DB.ne k (oL 6) (DE.toO (DE.lst DLV.nil))) (DSs.one (sL 4 k (bTuple k rfl M.f_tuple (DL.cons (DE.toO (bSorted k rfl M.f_sorted (DL.cons (DE.toO (DE.add k (oL 4) (oIx k (oL 6) (DE.toO (DE.mod (oIx k (oL 3) (DE.toO (DE.add k (DV.toO DV.int) (oL 5)))) (DE.toO (bLen k M.f_len (DL.cons (oL 6) DL.nil)))))))) DL.nil))) DL.nil)))) DSs.nil)))) (DSs.one (rV 4)))))
abbrev N_law_kind : List Str := ["_law_piece", "_law_forms", "_law_some", "_law_time", "_law_x", "_law_y", "_law_left_most", "_law_top_most"]
def mb_law_kind_1 : SM := sSeq (sFrz 2 (sSet 2 (eLc (.tup [4, 5]) [4, 5] (iA (vVar 2)) (bYes) (vTup (lCons (vNeg (oVar 5)) (lCons (vVar 4) (lNil))))))) (sSeq (sIf (b2 eqF (oVar 3) (oC (.int 4))) (sFrz 2 (sSet 2 (eLc (.tup [4, 5]) [4, 5] (iA (vVar 2)) (bYes) (vTup (lCons (vNeg (oVar 4)) (lCons (vVar 5) (lNil))))))) (sSkip)) (sSeq (sFrz 2 (sPar 6 7 (eL minF1 (lCons (oE (eLc (.tup [4, 5]) [4, 5] (iA (vVar 2)) (bYes) (vVar 4))) (lNil))) (eL minF1 (lCons (oE (eLc (.tup [4, 5]) [4, 5] (iA (vVar 2)) (bYes) (vVar 5))) (lNil))))) (sApp 1 (oE (eL tupleF (lCons (oE (eL sortedF (lCons (oE (eLc (.tup [4, 5]) [4, 5] (iA (vVar 2)) (bYes) (vTup (lCons (oE (e2 (iF yes2 fun i j => i - j) (oVar 4) (oVar 6))) (lCons (oE (e2 (iF yes2 fun i j => i - j) (oVar 5) (oVar 7))) (lNil)))))) (lNil)))) (lNil)))))))
def m_law_kind : SM := sSeq (sSet 1 (eLst (lNil))) (sSeq (sSet 2 (eL listF (lCons (oVar 0) (lNil)))) (sSeq (sFor (.one 3) (iR1 (lCons (oC (.int 8)) (lNil))) (mb_law_kind_1)) (sRet (eL minG (lCons (oVar 1) (lNil))))))
def fm_law_kind : FM := runD N_law_kind m_law_kind
theorem ok_law_kind {P : Program} {w : World} {K : PySem.W.Frag} {mg : Str → Option Value} {base : Heap} {f : Addr} {fd : FuncData} (M : Md K mg) (F : FunD K "_law_kind" "_law_kind" (defArgs s_law_kind) (defBody s_law_kind) (defScope s_law_kind) [] [] f fd) (hm : mg "_law_kind" = some (.ref f))  : FnK P w K mg base "_law_kind" 1 1 fm_law_kind :=
  FnK.of (m := m_law_kind) (ps := ["_law_piece"]) (N := N_law_kind) F hm ⟨rfl, rfl, rfl, by decide +kernel, rfl, by decide +kernel, by decide +kernel⟩ (fun _ _ _ _ _ _ us hl => match us, hl with | [_], _ => rfl) fun cdv A outer s H E F0 hr k =>
    (DSs.cons (sL 1 k (DE.lst DLV.nil)) (DSs.cons (sL 2 k (bList k rfl M.f_list (DL.cons (oL 0) DL.nil))) (DSs.cons (DS.for k (passes_of rfl) rfl (DI.range1 rfl M.f_range (DL.cons (DV.toO DV.int) DL.nil)) (tN 3 k.nd) (DSs.cons (DS.frz 2 (DS.setLc (i := 2) (own := [("_law_x", 4), ("_law_y", 5)]) k rfl rfl (by first | exact sw_true rfl rfl rfl rfl | rfl) rfl (DI.any k (vL 2)) (blkOk_by rfl) (fun _ _ _ _ _ => (DG.tup rfl (tC 4 k.nd (tC 5 k.nd DGs.nil)))) (fun _ _ _ _ _ _ _ ki => DTs.nil) (fun _ _ _ _ _ _ _ ki => (DV.tup (DLV.cons (DV.neg (oL 5)) (DLV.cons (vL 4) DLV.nil)))))) (DSs.cons (DS.ite (DB.eq k (oL 3) (DV.toO DV.int)) (DSs.one (DS.frz 2 (DS.setLc (i := 2) (own := [("_law_x", 4), ("_law_y", 5)]) k rfl rfl (by first | exact sw_true rfl rfl rfl rfl | rfl) rfl (DI.any k (vL 2)) (blkOk_by rfl) (fun _ _ _ _ _ => (DG.tup rfl (tC 4 k.nd (tC 5 k.nd DGs.nil)))) (fun _ _ _ _ _ _ _ ki => DTs.nil) (fun _ _ _ _ _ _ _ ki => (DV.tup (DLV.cons (DV.neg (oL 4)) (DLV.cons (vL 5) DLV.nil))))))) DSs.nil) (DSs.cons (DS.frz 2 (DS.parT k rfl (bMin1 k rfl M.f_min (DL.cons (DE.toO (DE.lc (own := [("_law_x", 4), ("_law_y", 5)]) k rfl (DI.any k (vL 2)) (blkOk_by rfl) (fun _ _ _ _ _ => (DG.tup rfl (tC 4 k.nd (tC 5 k.nd DGs.nil)))) (fun _ _ _ _ _ _ _ ki => DTs.nil) (fun _ _ _ _ _ _ _ ki => (vL 4)))) DL.nil)) (fun _ _ kp => (bMin1 kp rfl M.f_min (DL.cons (DE.toO (DE.lc (own := [("_law_x", 4), ("_law_y", 5)]) kp rfl (DI.any kp (vL 2)) (blkOk_by rfl) (fun _ _ _ _ _ => (DG.tup rfl (tC 4 kp.nd (tC 5 kp.nd DGs.nil)))) (fun _ _ _ _ _ _ _ kpi => DTs.nil) (fun _ _ _ _ _ _ _ kpi => (vL 5)))) DL.nil))) (tC 6 k.nd (tC 7 k.nd DGs.nil)) rfl rfl rfl rfl rfl rfl rfl rfl rfl)) (DSs.one (sAppL 1 (DE.toV (bTuple k rfl M.f_tuple (DL.cons (DE.toO (bSorted k rfl M.f_sorted (DL.cons (DE.toO (DE.lc (own := [("_law_x", 4), ("_law_y", 5)]) k rfl (DI.any k (vL 2)) (blkOk_by rfl) (fun _ _ _ _ _ => (DG.tup rfl (tC 4 k.nd (tC 5 k.nd DGs.nil)))) (fun _ _ _ _ _ _ _ ki => DTs.nil) (fun _ _ _ _ _ _ _ ki => (DV.tup (DLV.cons (DE.toV (DE.sub (oL 4) (oL 6))) (DLV.cons (DE.toV (DE.sub (oL 5) (oL 7))) DLV.nil)))))) DL.nil))) DL.nil))))))))) (DSs.one (DS.ret (bMinG k rfl M.f_min (DL.cons (oL 1) DL.nil)))))))
abbrev N_law_kind_word : List Str := ["_law_thing", "e"]
def m_law_kind_word : SM := sSeq (sTryM [⟨some 1, csY Xnames "BadPieces", fun x => sRet (eV (mIf (bAnd (bT (oC (.bool true))) (bNot (bT (oC (.bool (x.cls == "BadSheet")))))) (oC (.str "pieces")) (oC (.str "other"))))⟩] (sExp (eCall 1 fm_kind (lCons (oVar 0) (lNil))))) (sRet (eV (oC (.str "none"))))
def fm_law_kind_word : FM := runD N_law_kind_word m_law_kind_word
theorem ok_law_kind_word {P : Program} {w : World} {K : PySem.W.Frag} {mg : Str → Option Value} {base : Heap} {f : Addr} {fd : FuncData} (M : Md K mg) (F : FunD K "_law_kind_word" "_law_kind_word" (defArgs s_law_kind_word) (defBody s_law_kind_word) (defScope s_law_kind_word) [] [] f fd) (hm : mg "_law_kind_word" = some (.ref f)) (h_kind : FnK P w K mg base "kind" 1 4 fm_kind) (XK : Xk K mg Xnames) (XE : Xe K mg Xnames) : FnK P w K mg base "_law_kind_word" 1 5 fm_law_kind_word :=
  FnK.of (m := m_law_kind_word) (ps := ["_law_thing"]) (N := N_law_kind_word) F hm ⟨rfl, rfl, rfl, by decide +kernel, rfl, by decide +kernel, by decide +kernel⟩ (fun _ _ _ _ _ _ us hl => match us, hl with | [_], _ => rfl) fun cdv A outer s H E F0 hr k =>
    (DSs.cons (DS.tryM k (fun _ => rfl) rfl rfl (fun W pn xe hp kb => (DSs.one (DS.exp (DE.call kb h_kind (hr.mono (by decide)) rfl (DL.cons (oL 0) DL.nil))))) (HdsD.named (i := 1) (cs := csY Xnames "BadPieces") rfl rfl ⟨rfl, by decide, .inl (XE.glo _ (by decide))⟩ (fun x b cls h1 h2 => XE.exm (by decide) h1 h2) (fun x a oe cls d pn C' hx hz hf su ks => (DSs.one (DS.ret (DV.toE (DV.ife (DW.db (DW.and (bTru ks (DV.toO (isT XK (csY_some hx).1 su hz hf M.f_isinstance))) (DW.and1 (DB.not (bTru ks (DV.toO (isX "BadSheet" XK (csY_some hx).1 (by decide) su hz hf M.f_isinstance))))))) DV.str DV.str))))) HdsD.nil)) (DSs.one (DS.ret (DV.toE DV.str))))
abbrev N_law : List Str := ["_law_script", "_law_row_here", "_law_sheet_here", "_law_torn_here", "_law_counted", "_law_piece", "_law_mine", "_law_one", "_law_fields_here", "_law_odd"]
def ml_1 : SM := sSet 1 (eCall 2 fm_law_row (lCons (oVar 0) (lCons (oC (.int 5)) (lNil))))
def ml_2 : SM := sSet 2 (eCall 3 fm_law_sheet (lCons (oVar 0) (lCons (oC (.int 2)) (lCons (oC (.int 12)) (lNil)))))
def ml_3 : SM := sSet 3 (eCall 3 fm_law_torn (lCons (oVar 0) (lCons (oC (.int 3)) (lCons (oVar 2) (lNil)))))
def ml_4 : SM := sSet 4 (eDNew)
def mb_law_5 : SM := sSeq (sSet 6 (eCall 1 fm_law_kind (lCons (oVar 5) (lNil)))) (sSeq (sIf (b2 neF (oE (eCall 1 fm_kind (lCons (oVar 5) (lNil)))) (oVar 6)) (sRet (eV (oC (.bool false)))) (sSkip)) (sFrz 6 (sPut 4 (vVar 6) (oE (e2 addF (oGet (oVar 4) (oVar 6) (oC (.int 0))) (oC (.int 1)))))))
def ml_5 : SM := sFor (.one 5) (iA (oE (eCall 2 fm_pieces (lCons (oVar 2) (lCons (oVar 3) (lNil)))))) (mb_law_5)
def ml_6 : SM := sIf (b2 neF (oE (eCall 2 fm_kinds (lCons (oVar 2) (lCons (oVar 3) (lNil))))) (oE (eLc (.one 7) [7] (iA (oE (eL sortedF (lCons (oVar 4) (lNil))))) (bYes) (vTup (lCons (vVar 7) (lCons (vI (o2 idxF (oVar 4) (oVar 7))) (lNil))))))) (sRet (eV (oC (.bool false)))) (sSkip)
def ml_7 : SM := sIf (b2 neF (oE (eCall 1 fm_end_kinds (lCons (oVar 2) (lNil)))) (oE (eCall 2 fm_kinds (lCons (oVar 2) (lCons (oE (eCall 1 fm_end (lCons (oVar 2) (lNil)))) (lNil)))))) (sRet (eV (oC (.bool false)))) (sSkip)
def ml_8 : SM := sSet 8 (eV (vI (o2 idxF (oVar 2) (oC (.int 0)))))
def ml_9 : SM := sSet 9 (eLst (lCons (oC .none) (lCons (vTup (lNil)) (lCons (oE (e2 addF (oVar 8) (vTup (lCons (vTup (lCons (oC (.int 7)) (lCons (oC (.int 7)) (lNil)))) (lNil))))) (lCons (oE (e2 addF (oE (eRev (oVar 8))) (oE (eSlc (oVar 8) (pNo) (pSome (oC (.int 1))))))) (lCons (oE (eL listF (lCons (oVar 8) (lNil)))) (lCons (vTup (lCons (vTup (lCons (oC (.int 8)) (lCons (oC (.int 0)) (lNil)))) (lNil))) (lCons (vTup (lCons (vTup (lCons (oC (.int 0)) (lCons (oC (.bool true)) (lNil)))) (lNil))) (lNil)))))))))
def ml_10 : SM := sApp 9 (oE (e2 addF (oVar 8) (oE (eSlc (oVar 8) (pNo) (pSome (oC (.int 1)))))))
def ml_11 : SM := sRet (eV (oB (b2 eqF (oE (eCall 1 fm_law_kind_word (lCons (o2 idxF (oVar 9) (oE (e2 (iF modC fun i j => i % j) (o2 idxF (oVar 1) (oC (.int 0))) (oC (.int 8))))) (lNil)))) (oC (.str "pieces")))))
def m_law : SM := sSeq (ml_1) (sSeq (ml_2) (sSeq (ml_3) (sSeq (ml_4) (sSeq (ml_5) (sSeq (ml_6) (sSeq (ml_7) (sSeq (ml_8) (sSeq (ml_9) (sSeq (ml_10) (ml_11))))))))))
def fm_law : FM := runD N_law m_law
theorem ok_law {P : Program} {w : World} {K : PySem.W.Frag} {mg : Str → Option Value} {base : Heap} {f : Addr} {fd : FuncData} (M : Md K mg) (F : FunD K "law" "law" (defArgs s_law) (defBody s_law) (defScope s_law) [] [] f fd) (h_law_row : FnK P w K mg base "_law_row" 2 2 fm_law_row) (h_law_sheet : FnK P w K mg base "_law_sheet" 3 4 fm_law_sheet) (h_law_torn : FnK P w K mg base "_law_torn" 3 4 fm_law_torn) (h_pieces : FnK P w K mg base "pieces" 2 7 fm_pieces) (h_law_kind : FnK P w K mg base "_law_kind" 1 1 fm_law_kind) (h_kind : FnK P w K mg base "kind" 1 4 fm_kind) (h_kinds : FnK P w K mg base "kinds" 2 7 fm_kinds) (h_end_kinds : FnK P w K mg base "end_kinds" 1 8 fm_end_kinds) (h_end : FnK P w K mg base "end" 1 8 fm_end) (h_law_kind_word : FnK P w K mg base "_law_kind_word" 1 5 fm_law_kind_word) : FnOk P w K mg base (L2.CX P w) 9 f fd ["_law_script"] (spF w K mg 1 fm_law) :=
  FnLaw.of (m := m_law) (ps := ["_law_script"]) (N := N_law) F ⟨rfl, rfl, rfl, by decide +kernel, rfl, by decide +kernel, by decide +kernel⟩ fun cdv A outer s H E F0 hr k =>
    (DSs.cons (sL 1 k (DE.call k h_law_row (hr.mono (by decide)) rfl (DL.cons (oL 0) (DL.cons (DV.toO DV.int) DL.nil)))) (DSs.cons (sL 2 k (DE.call k h_law_sheet (hr.mono (by decide)) rfl (DL.cons (oL 0) (DL.cons (DV.toO DV.int) (DL.cons (DV.toO DV.int) DL.nil))))) (DSs.cons (sL 3 k (DE.call k h_law_torn (hr.mono (by decide)) rfl (DL.cons (oL 0) (DL.cons (DV.toO DV.int) (DL.cons (oL 2) DL.nil))))) (DSs.cons (sL 4 k (DE.dnew k)) (DSs.cons (DS.for k (passes_of rfl) rfl (DI.any k (DE.toV (DE.call k h_pieces (hr.mono (by decide)) rfl (DL.cons (oL 2) (DL.cons (oL 3) DL.nil))))) (tN 5 k.nd) (DSs.cons (sL 6 k (DE.call k h_law_kind (hr.mono (by decide)) rfl (DL.cons (oL 5) DL.nil))) (DSs.cons (DS.ite (DB.ne k (DE.toO (DE.call k h_kind (hr.mono (by decide)) rfl (DL.cons (oL 5) DL.nil))) (oL 6)) (DSs.one (DS.ret (DV.toE DV.bl))) DSs.nil) (DSs.one (DS.frz 6 (sPutL 4 k (vL 6) (DE.toV (DE.add k (DO.get k (oL 4) (oL 6) (DV.toO DV.int)) (DV.toO DV.int))))))))) (DSs.cons (DS.ite (DB.ne k (DE.toO (DE.call k h_kinds (hr.mono (by decide)) rfl (DL.cons (oL 2) (DL.cons (oL 3) DL.nil)))) (DE.toO (DE.lc (own := [("_law_one", 7)]) k rfl (DI.any k (DE.toV (bSorted k rfl M.f_sorted (DL.cons (oL 4) DL.nil)))) (blkOk_by rfl) (fun _ _ _ _ _ => (tN 7 k.nd)) (fun _ _ _ _ _ _ _ ki => DTs.nil) (fun _ _ _ _ _ _ _ ki => (DV.tup (DLV.cons (vL 7) (DLV.cons (DV.ofO (oIx ki (oL 4) (oL 7))) DLV.nil))))))) (DSs.one (DS.ret (DV.toE DV.bl))) DSs.nil) (DSs.cons (DS.ite (DB.ne k (DE.toO (DE.call k h_end_kinds (hr.mono (by decide)) rfl (DL.cons (oL 2) DL.nil))) (DE.toO (DE.call k h_kinds (hr.mono (by decide)) rfl (DL.cons (oL 2) (DL.cons (DE.toO (DE.call k h_end (hr.mono (by decide)) rfl (DL.cons (oL 2) DL.nil))) DL.nil))))) (DSs.one (DS.ret (DV.toE DV.bl))) DSs.nil) (DSs.cons (sL 8 k (DV.toE (DV.ofO (oIx k (oL 2) (DV.toO DV.int))))) (DSs.cons (sL 9 k (DE.lst (DLV.cons DV.non (DLV.cons (DV.tup DLV.nil) (DLV.cons (DE.toV (DE.add k (oL 8) (DV.toO (DV.tup (DLV.cons (DV.tup (DLV.cons DV.int (DLV.cons DV.int DLV.nil))) DLV.nil))))) (DLV.cons (DE.toV (DE.add k (DE.toO (DE.rev k (oL 8))) (DE.toO (DE.slc k (oL 8) DP.no (DP.yes (DV.toO DV.int)))))) (DLV.cons (DE.toV (bList k rfl M.f_list (DL.cons (oL 8) DL.nil))) (DLV.cons (DV.tup (DLV.cons (DV.tup (DLV.cons DV.int (DLV.cons DV.int DLV.nil))) DLV.nil)) (DLV.cons (DV.tup (DLV.cons (DV.tup (DLV.cons DV.int (DLV.cons DV.bl DLV.nil))) DLV.nil)) DLV.nil))))))))) (DSs.cons (sAppL 9 (DE.toV (DE.add k (oL 8) (DE.toO (DE.slc k (oL 8) DP.no (DP.yes (DV.toO DV.int))))))) (DSs.one (DS.ret (DV.toE (DV.eq k (DE.toO (DE.call k h_law_kind_word (hr.mono (by decide)) rfl (DL.cons (oIx k (oL 9) (DE.toO (DE.mod (oIx k (oL 1) (DV.toO DV.int)) (DV.toO DV.int)))) DL.nil))) (DV.toO DV.str)))))))))))))))
/-! what this law does not call -/
abbrev N_look_border : List Str := ["sheet", "border"]
def m_look_border : SM := sIf (bOr (bNot (bT (oE (eCall 1 fm_is_border (lCons (oVar 1) (lNil)))))) (b2 notInF (oVar 1) (oE (eCall 1 fm_borders_of (lCons (o2 idxF (oVar 0) (oC (.int 0))) (lNil)))))) (sRai "BadBorder") (sSkip)
def fm_look_border : FM := runD N_look_border m_look_border
abbrev N_healed : List Str := ["sheet", "border", "one"]
def m_healed : SM := sSeq (sExp (eCall 1 fm_look (lCons (oVar 0) (lNil)))) (sSeq (sExp (eCall 2 fm_look_border (lCons (oVar 0) (lCons (oVar 1) (lNil))))) (sRet (eV (vTup (lCons (o2 idxF (vVar 0) (oC (.int 0))) (lCons (oE (eL tupleF (lCons (oE (eLc (.one 2) [2] (iA (o2 idxF (vVar 0) (oC (.int 1)))) (b2 neF (oVar 2) (oVar 1)) (vVar 2))) (lNil)))) (lNil)))))))
def fm_healed : FM := runD N_healed m_healed
abbrev N_tears : List Str := ["sheet", "torn"]
def m_tears : SM := sSeq (sExp (eCall 2 fm_look_torn (lCons (oVar 0) (lCons (oVar 1) (lNil))))) (sRet (eCall 2 fm_tears_of (lCons (oE (eCall 2 fm_hanging_of (lCons (oVar 0) (lCons (oVar 1) (lNil))))) (lCons (oE (eCall 1 fm_pricks_of (lCons (oVar 0) (lNil)))) (lNil)))))
def fm_tears : FM := runD N_tears m_tears
abbrev N_torn_by : List Str := ["sheet", "torn", "border", "tear"]
def m_torn_by : SM := sSeq (sExp (eCall 2 fm_look_torn (lCons (oVar 0) (lCons (oVar 1) (lNil))))) (sSeq (sExp (eCall 2 fm_look_border (lCons (oVar 0) (lCons (oVar 2) (lNil))))) (sSeq (sSet 3 (eCall 3 fm_tear_at (lCons (oE (eCall 2 fm_hanging_of (lCons (oVar 0) (lCons (oVar 1) (lNil))))) (lCons (oE (eCall 1 fm_pricks_of (lCons (oVar 0) (lNil)))) (lCons (oVar 2) (lNil)))))) (sSeq (sIf (b2 isNF (oVar 3) (oC .none)) (sRaiF "NoTear" "at" (oC (.int 0))) (sSkip)) (sRet (eL tupleF (lCons (oE (eL sortedF (lCons (oE (e2 addF (oVar 1) (oVar 3))) (lNil)))) (lNil)))))))
def fm_torn_by : FM := runD N_torn_by m_torn_by
abbrev N_within : List Str := ["hanging", "fields", "some", "field", "border"]
def m_within : SM := sSeq (sSet 2 (eDc (.one 3) [3] (iA (vVar 1)) (bYes) (vVar 3) (oC (.bool true)))) (sRet (eDc (.one 4) [4] (iA (vVar 0)) (bAnd (b2 inF (o2 idxF (oE (eCall 1 fm_fields_at (lCons (oVar 4) (lNil)))) (oC (.int 0))) (oVar 2)) (b2 inF (o2 idxF (oE (eCall 1 fm_fields_at (lCons (oVar 4) (lNil)))) (oC (.int 1))) (oVar 2))) (vVar 4) (oC (.bool true))))
def fm_within : FM := runD N_within m_within
abbrev N_behind : List Str := ["fields", "hanging", "tear", "left", "border", "piece"]
def m_behind : SM := sSeq (sSet 3 (eDc (.one 4) [4] (iA (vVar 1)) (b2 notInF (oVar 4) (oVar 2)) (vVar 4) (oC (.bool true)))) (sRet (eLc (.one 5) [5] (iA (oE (eCall 2 fm_parts_of (lCons (oVar 0) (lCons (oE (eL listF (lCons (oVar 3) (lNil)))) (lNil)))))) (bYes) (vTup (lCons (vVar 5) (lCons (oE (eCall 2 fm_within (lCons (oVar 3) (lCons (oVar 5) (lNil))))) (lNil))))))
def fm_behind : FM := runD N_behind m_behind
abbrev N_key_of : List Str := ["fields", "hanging"]
def m_key_of : SM := sRet (eV (vTup (lCons (vVar 0) (lCons (oE (eL tupleF (lCons (oE (eL sortedF (lCons (oVar 1) (lNil)))) (lNil)))) (lNil)))))
def fm_key_of : FM := runD N_key_of m_key_of
abbrev N_border_between : List Str := ["one", "other", "first"]
def m_border_between : SM := sSeq (sSet 2 (eL minF2 (lCons (oVar 0) (lCons (oVar 1) (lNil))))) (sRet (e2 addF (vTup (lCons (mIf (b2 eqF (o2 idxF (oVar 0) (oC (.int 1))) (o2 idxF (oVar 1) (oC (.int 1)))) (oC (.str "right")) (oC (.str "down"))) (lNil))) (oVar 2)))
def fm_border_between : FM := runD N_border_between m_border_between
abbrev N_led : List Str := ["sheet", "fields", "left", "top", "x", "y", "there", "old", "new", "pricks", "border", "one", "other", "field"]
def mb_led_1 : SM := sSeq (sUnp [11, 12] (oE (eCall 1 fm_fields_at (lCons (oVar 10) (lNil))))) (sApp 9 (oE (eCall 2 fm_border_between (lCons (o2 idxF (oVar 6) (oVar 11)) (lCons (o2 idxF (oVar 6) (oVar 12)) (lNil))))))
def m_led : SM := sSeq (sPar 2 3 (eL minF1 (lCons (oE (eLc (.tup [4, 5]) [4, 5] (iA (vVar 1)) (bYes) (vVar 4))) (lNil))) (eL minF1 (lCons (oE (eLc (.tup [4, 5]) [4, 5] (iA (vVar 1)) (bYes) (vVar 5))) (lNil)))) (sSeq (sSet 6 (eDc (.tup [7, 8]) [7, 8] (iZp (lCons (o2 idxF (vVar 0) (oC (.int 0))) (lCons (vVar 1) (lNil)))) (bYes) (vVar 7) (vTup (lCons (oE (e2 (iF yes2 fun i j => i - j) (o2 idxF (oVar 8) (oC (.int 0))) (oVar 2))) (lCons (oE (e2 (iF yes2 fun i j => i - j) (o2 idxF (oVar 8) (oC (.int 1))) (oVar 3))) (lNil)))))) (sSeq (sSet 9 (eLst (lNil))) (sSeq (sFor (.one 10) (iA (o2 idxF (vVar 0) (oC (.int 1)))) (mb_led_1)) (sRet (eV (vTup (lCons (oE (eL tupleF (lCons (oE (eL sortedF (lCons (oE (eLc (.one 13) [13] (iA (o2 idxF (vVar 0) (oC (.int 0)))) (bYes) (vI (o2 idxF (oVar 6) (oVar 13))))) (lNil)))) (lNil)))) (lCons (oE (eL tupleF (lCons (oE (eL sortedF (lCons (oVar 9) (lNil)))) (lNil)))) (lNil)))))))))
def fm_led : FM := runD N_led m_led
abbrev N_turned : List Str := ["sheet", "x", "y"]
def m_turned : SM := sSeq (sExp (eCall 1 fm_look (lCons (oVar 0) (lNil)))) (sRet (eCall 2 fm_led (lCons (oVar 0) (lCons (oE (eLc (.tup [1, 2]) [1, 2] (iA (o2 idxF (vVar 0) (oC (.int 0)))) (bYes) (vTup (lCons (vNeg (oVar 2)) (lCons (vVar 1) (lNil)))))) (lNil)))))
def fm_turned : FM := runD N_turned m_turned
abbrev N_between : List Str := ["sheet", "some", "places", "at", "piece", "field", "found", "border", "one", "other"]
def mb_between_1 : SM := sSeq (sUnp [8, 9] (oE (eCall 1 fm_fields_at (lCons (oVar 7) (lNil))))) (sIf (b2 neF (o2 idxF (oVar 2) (oVar 8)) (o2 idxF (oVar 2) (oVar 9))) (sApp 6 (vVar 7)) (sSkip))
def m_between : SM := sSeq (sSet 2 (eDc2 (.tup [3, 4]) [3, 4, 5] (iEn (lCons (vVar 1) (lNil))) (iA (vVar 4)) (.one 5) [5] (vVar 5) (vVar 3))) (sSeq (sSet 6 (eLst (lNil))) (sSeq (sFor (.one 7) (iA (oE (eCall 1 fm_borders_of (lCons (o2 idxF (oVar 0) (oC (.int 0))) (lNil))))) (mb_between_1)) (sRetV 6)))
def fm_between : FM := runD N_between m_between
abbrev N_for_wished : List Str := ["sheet", "some", "wanted", "border"]
def m_for_wished : SM := sSeq (sSet 2 (eCall 2 fm_between (lCons (oVar 0) (lCons (oVar 1) (lNil))))) (sRet (eV (vTup (lCons (o2 idxF (vVar 0) (oC (.int 0))) (lCons (oE (eL tupleF (lCons (oE (eLc (.one 3) [3] (iA (o2 idxF (vVar 0) (oC (.int 1)))) (b2 inF (oVar 3) (oVar 2)) (vVar 3))) (lNil)))) (lNil))))))
def fm_for_wished : FM := runD N_for_wished m_for_wished
abbrev N_corners_of : List Str := ["hanging", "some", "border", "corner"]
def m_corners_of : SM := sSeq (sSet 1 (eDc2 (.one 2) [2, 3] (iA (vVar 0)) (iA (oE (eCall 1 fm_corners_at (lCons (oVar 2) (lNil))))) (.one 3) [3] (vVar 3) (oC (.bool true)))) (sFrz 1 (sRet (eL lenF (lCons (oE (eLc (.one 3) [3] (iA (vVar 1)) (bT (oE (eCall 2 fm_is_whole_corner (lCons (oVar 0) (lCons (oVar 3) (lNil)))))) (vVar 3))) (lNil)))))
def fm_corners_of : FM := runD N_corners_of m_corners_of
abbrev N_measure_of : List Str := ["fields", "hanging"]
def m_measure_of : SM := sRet (e2 addF (oE (e2 (iF yes2 fun i j => i - j) (oE (eL lenF (lCons (oVar 0) (lNil)))) (oE (eL lenF (lCons (oVar 1) (lNil)))))) (oE (eCall 1 fm_corners_of (lCons (oVar 1) (lNil)))))
def fm_measure_of : FM := runD N_measure_of m_measure_of
abbrev N_measure : List Str := ["sheet", "torn"]
def m_measure : SM := sSeq (sExp (eCall 2 fm_look_torn (lCons (oVar 0) (lCons (oVar 1) (lNil))))) (sRet (eCall 2 fm_measure_of (lCons (o2 idxF (oVar 0) (oC (.int 0))) (lCons (oE (eCall 2 fm_hanging_of (lCons (oVar 0) (lCons (oVar 1) (lNil))))) (lNil)))))
def fm_measure : FM := runD N_measure m_measure
abbrev N_holes : List Str := ["sheet", "torn", "hanging", "piece"]
def m_holes : SM := sSeq (sExp (eCall 2 fm_look_torn (lCons (oVar 0) (lCons (oVar 1) (lNil))))) (sSeq (sSet 2 (eCall 2 fm_hanging_of (lCons (oVar 0) (lCons (oVar 1) (lNil))))) (sRet (eLc (.one 3) [3] (iA (oE (eCall 2 fm_pieces_of (lCons (oVar 0) (lCons (oVar 1) (lNil)))))) (bYes) (oE (e2 (iF yes2 fun i j => i - j) (oC (.int 1)) (oE (eCall 2 fm_measure_of (lCons (oVar 3) (lCons (oE (eCall 2 fm_within (lCons (oVar 2) (lCons (oVar 3) (lNil))))) (lNil))))))))))
def fm_holes : FM := runD N_holes m_holes
abbrev N_left_of : List Str := ["sheet", "torn", "last"]
def m_left_of : SM := sSeq (sSet 2 (eV (o2 idxF (oE (eCallV 2 fm_first_row (lCons (vVar 0) (lCons (vVar 1) (lNil))))) (oC (.int 1))))) (sRet (e2 (iF yes2 fun i j => i - j) (oE (eCall 2 fm_measure_of (lCons (o2 idxF (oVar 0) (oC (.int 0))) (lCons (oE (eCall 2 fm_hanging_of (lCons (oVar 0) (lCons (oVar 2) (lNil))))) (lNil))))) (oE (eCall 2 fm_measure_of (lCons (o2 idxF (oVar 0) (oC (.int 0))) (lCons (oE (eCall 2 fm_hanging_of (lCons (oVar 0) (lCons (oVar 1) (lNil))))) (lNil)))))))
def fm_left_of : FM := runD N_left_of m_left_of
abbrev N_left : List Str := ["sheet", "torn"]
def m_left : SM := sSeq (sExp (eCall 2 fm_look_torn (lCons (oVar 0) (lCons (oVar 1) (lNil))))) (sRet (eCall 2 fm_left_of (lCons (oVar 0) (lCons (oVar 1) (lNil)))))
def fm_left : FM := runD N_left m_left
abbrev N_law_measure : List Str := ["_law_fields_here", "_law_hanging", "_law_corners", "_law_field"]
def m_law_measure : SM := sSeq (sSet 2 (eLc (.one 3) [3] (iA (vVar 0)) (bT (oE (eCall 3 fm_law_full (lCons (oVar 1) (lCons (o2 idxF (oVar 3) (oC (.int 0))) (lCons (o2 idxF (oVar 3) (oC (.int 1))) (lNil))))))) (vVar 3))) (sRet (e2 addF (oE (e2 (iF yes2 fun i j => i - j) (oE (eL lenF (lCons (oVar 0) (lNil)))) (oE (eL lenF (lCons (oVar 1) (lNil)))))) (oE (eL lenF (lCons (oVar 2) (lNil))))))
def fm_law_measure : FM := runD N_law_measure m_law_measure
abbrev N_end_pieces : List Str := ["sheet"]
def m_end_pieces : SM := sSeq (sExp (eCall 1 fm_look (lCons (oVar 0) (lNil)))) (sRet (eCall 2 fm_pieces_of (lCons (oVar 0) (lCons (oE (eCall 1 fm_end_torn (lCons (oVar 0) (lNil)))) (lNil)))))
def fm_end_pieces : FM := runD N_end_pieces m_end_pieces
abbrev N_row : List Str := ["sheet"]
def m_row : SM := sSeq (sExp (eCall 1 fm_look (lCons (oVar 0) (lNil)))) (sRet (eV (o2 idxF (oE (eCallV 2 fm_first_row (lCons (vVar 0) (lCons (vTup (lNil)) (lNil))))) (oC (.int 0)))))
def fm_row : FM := runD N_row m_row
abbrev N_is_row : List Str := ["sheet", "thing", "one", "inner"]
def m_is_row : SM := sSeq (sIf (bOr (bNot (bT (oIs "list" (oVar 1)))) (bOr (b2 (ltF pGt) (oE (eL lenF (lCons (oVar 1) (lNil)))) (oC (.int 24))) (bT (oE (eLc (.one 2) [2] (iA (vVar 1)) (bNot (bT (oE (eCall 1 fm_is_border (lCons (oVar 2) (lNil)))))) (vVar 2)))))) (sRet (eV (oC (.bool false)))) (sSkip)) (sSeq (sSet 3 (eCall 1 fm_borders_of (lCons (o2 idxF (oVar 0) (oC (.int 0))) (lNil)))) (sRet (eV (oB (bNot (bT (oE (eLc (.one 2) [2] (iA (vVar 1)) (b2 notInF (oVar 2) (oVar 3)) (vVar 2)))))))))
def fm_is_row : FM := runD N_is_row m_is_row
abbrev N_torn_row : List Str := ["sheet", "thing", "hanging", "pricks", "at", "border", "tear", "one"]
def mb_torn_row_1 : SM := sDPop 2 (vVar 7)
def mb_torn_row_2 : SM := sSeq (sSet 6 (eCall 3 fm_tear_at (lCons (oVar 2) (lCons (oVar 3) (lCons (oVar 5) (lNil)))))) (sSeq (sIf (b2 isNF (oVar 6) (oC .none)) (sRaiF "NoTear" "at" (oVar 4)) (sSkip)) (sFrz 6 (sFor (.one 7) (iA (vVar 6)) (mb_torn_row_1))))
def m_torn_row : SM := sSeq (sExp (eCall 1 fm_look (lCons (oVar 0) (lNil)))) (sSeq (sIf (bNot (bT (oE (eCall 2 fm_is_row (lCons (oVar 0) (lCons (oVar 1) (lNil))))))) (sRai "BadRow") (sSkip)) (sSeq (sPar 2 3 (eCall 2 fm_hanging_of (lCons (oVar 0) (lCons (vTup (lNil)) (lNil)))) (eCall 1 fm_pricks_of (lCons (oVar 0) (lNil)))) (sSeq (sFor (.tup [4, 5]) (iEn (lCons (vVar 1) (lNil))) (mb_torn_row_2)) (sRet (eL tupleF (lCons (oE (eLc (.one 5) [5] (iA (o2 idxF (vVar 0) (oC (.int 1)))) (b2 notInF (oVar 5) (oVar 2)) (vVar 5))) (lNil)))))))
def fm_torn_row : FM := runD N_torn_row m_torn_row
abbrev N_idle : List Str := ["sheet", "gone", "border"]
def m_idle : SM := sSeq (sExp (eCall 1 fm_look (lCons (oVar 0) (lNil)))) (sSeq (sSet 1 (eCall 1 fm_end_torn (lCons (oVar 0) (lNil)))) (sRet (eLc (.one 2) [2] (iA (o2 idxF (vVar 0) (oC (.int 1)))) (b2 notInF (oVar 2) (oVar 1)) (vVar 2))))
def fm_idle : FM := runD N_idle m_idle
abbrev N_law_lots : List Str := ["_law_fields_here", "_law_hanging", "_law_found", "_law_field", "_law_lot", "_law_at", "_law_x", "_law_y", "_law_near", "_law_other", "_law_border"]
def mb_law_lots_1 : SM := sSeq (sUnp [6, 7] (vI (o2 idxF (oVar 4) (oVar 5)))) (sSeq (sSet 8 (eLst (lCons (vTup (lCons (vTup (lCons (oE (e2 addF (oVar 6) (oC (.int 1)))) (lCons (vVar 7) (lNil)))) (lCons (vTup (lCons (oC (.str "right")) (lCons (vVar 6) (lCons (vVar 7) (lNil))))) (lNil)))) (lCons (vTup (lCons (vTup (lCons (oE (e2 (iF yes2 fun i j => i - j) (oVar 6) (oC (.int 1)))) (lCons (vVar 7) (lNil)))) (lCons (vTup (lCons (oC (.str "right")) (lCons (oE (e2 (iF yes2 fun i j => i - j) (oVar 6) (oC (.int 1)))) (lCons (vVar 7) (lNil))))) (lNil)))) (lNil))))) (sSeq (sSet 8 (e2 addF (oVar 8) (oE (eLst (lCons (vTup (lCons (vTup (lCons (vVar 6) (lCons (oE (e2 addF (oVar 7) (oC (.int 1)))) (lNil)))) (lCons (vTup (lCons (oC (.str "down")) (lCons (vVar 6) (lCons (vVar 7) (lNil))))) (lNil)))) (lCons (vTup (lCons (vTup (lCons (vVar 6) (lCons (oE (e2 (iF yes2 fun i j => i - j) (oVar 7) (oC (.int 1)))) (lNil)))) (lCons (vTup (lCons (oC (.str "down")) (lCons (vVar 6) (lCons (oE (e2 (iF yes2 fun i j => i - j) (oVar 7) (oC (.int 1)))) (lNil))))) (lNil)))) (lNil))))))) (sSeq (sFrz 8 (sSet 4 (e2 addF (oVar 4) (oE (eLc (.tup [9, 10]) [9, 10] (iA (vVar 8)) (bAnd (b2 inF (oVar 10) (oVar 1)) (b2 notInF (oVar 9) (oVar 4))) (vVar 9)))))) (sSet 5 (e2 addF (oVar 5) (oC (.int 1)))))))
def mb_law_lots_2 : SM := sIf (borB 4 (borB 2 (b2 eqF (oE (eLc (.one 4) [4] (iA (vVar 2)) (b2 inF (oVar 3) (oVar 4)) (vVar 4))) (oE (eLst (lNil)))))) (sSeq (sSet 4 (eLst (lCons (vVar 3) (lNil)))) (sSeq (sSet 5 (eV (oC (.int 0)))) (sSeq (sWhile (b2 (ltF pLt) (oVar 5) (oE (eL lenF (lCons (oVar 4) (lNil))))) (mb_law_lots_1)) (sApp 2 (oE (eL tupleF (lCons (oE (eL sortedF (lCons (oVar 4) (lNil)))) (lNil)))))))) (sSkip)
def m_law_lots : SM := sSeq (sSet 2 (eLst (lNil))) (sSeq (sFor (.one 3) (iA (vVar 0)) (mb_law_lots_2)) (sRetV 2))
def fm_law_lots : FM := runD N_law_lots m_law_lots
abbrev N_law_end : List Str := ["_law_sheet_here", "_law_torn_here", "_law_draws", "_law_many", "_law_some"]
def mb_law_end_1 : SM := sSeq (sSet 1 (eL tupleF (lCons (oE (eL sortedF (lCons (oE (e2 addF (oVar 1) (o2 idxF (oVar 4) (oE (e2 (iF modC fun i j => i % j) (o2 idxF (oVar 2) (oE (e2 (iF modC fun i j => i % j) (oVar 3) (oC (.int 60))))) (oE (eL lenF (lCons (oVar 4) (lNil))))))))) (lNil)))) (lNil)))) (sSeq (sSet 3 (e2 addF (oVar 3) (oC (.int 1)))) (sSet 4 (eCall 2 fm_law_tears (lCons (oVar 0) (lCons (oVar 1) (lNil))))))
def m_law_end : SM := sSeq (sSet 3 (eV (oC (.int 0)))) (sSeq (sSet 4 (eCall 2 fm_law_tears (lCons (oVar 0) (lCons (oVar 1) (lNil))))) (sSeq (sWhile (b2 neF (oVar 4) (oE (eLst (lNil)))) (mb_law_end_1)) (sFrz 3 (sRet (eV (vTup (lCons (vVar 1) (lCons (vVar 3) (lNil)))))))))
def fm_law_end : FM := runD N_law_end m_law_end
abbrev N_law_other : List Str := ["_law_border", "_law_word", "_law_x", "_law_y"]
def m_law_other : SM := sSeq (sUnp [1, 2, 3] (vVar 0)) (sRet (eV (mIf (b2 eqF (oVar 1) (oC (.str "right"))) (vTup (lCons (oE (e2 addF (oVar 2) (oC (.int 1)))) (lCons (vVar 3) (lNil)))) (vTup (lCons (vVar 2) (lCons (oE (e2 addF (oVar 3) (oC (.int 1)))) (lNil)))))))
def fm_law_other : FM := runD N_law_other m_law_other
abbrev N_law_within : List Str := ["_law_hanging", "_law_piece", "_law_border"]
def m_law_within : SM := sRet (eLc (.one 2) [2] (iA (vVar 0)) (bAnd (b2 inF (oE (eSlc (oVar 2) (pSome (oC (.int 1))) (pNo))) (oVar 1)) (b2 inF (oE (eCall 1 fm_law_other (lCons (oVar 2) (lNil)))) (oVar 1))) (vVar 2))
def fm_law_within : FM := runD N_law_within m_law_within
abbrev N_winner : List Str := ["sheet"]
def m_winner : SM := sSeq (sExp (eCall 1 fm_look (lCons (oVar 0) (lNil)))) (sRet (eV (mIf (b2 eqF (oE (e2 (iF modC fun i j => i % j) (oE (eCall 2 fm_left_of (lCons (oVar 0) (lCons (vTup (lNil)) (lNil))))) (oC (.int 2)))) (oC (.int 1))) (oC (.int 0)) (oC (.int 1)))))
def fm_winner : FM := runD N_winner m_winner
abbrev N_choices : List Str := ["many", "some", "found", "at"]
def mb_choices_1 : SM := sSet 2 (e2 (iF divC fun i j => i / j) (oE (e2 (iF mulC fun i j => i * j) (oVar 2) (oE (e2 (iF yes2 fun i j => i - j) (oVar 0) (oVar 3))))) (oE (e2 addF (oVar 3) (oC (.int 1)))))
def m_choices : SM := sSeq (sSet 2 (eV (oC (.int 1)))) (sSeq (sFor (.one 3) (iR1 (lCons (oVar 1) (lNil))) (mb_choices_1)) (sRetV 2))
def fm_choices : FM := runD N_choices m_choices
abbrev N_part : List Str := ["sheet", "fields", "field", "pricks", "one", "found"]
def m_part : SM := sSeq (sExp (eCall 1 fm_look (lCons (oVar 0) (lNil)))) (sSeq (sIf (bOr (bNot (bT (oIs "tuple" (oVar 1)))) (bT (oE (eLc (.one 2) [2] (iA (vVar 1)) (b2 notInF (oVar 2) (o2 idxF (oVar 0) (oC (.int 0)))) (vVar 2))))) (sRai "BadSheet") (sSkip)) (sSeq (sSet 3 (eLc (.one 4) [4] (iA (o2 idxF (vVar 0) (oC (.int 1)))) (bAnd (b2 inF (o2 idxF (oE (eCall 1 fm_fields_at (lCons (oVar 4) (lNil)))) (oC (.int 0))) (oVar 1)) (b2 inF (o2 idxF (oE (eCall 1 fm_fields_at (lCons (oVar 4) (lNil)))) (oC (.int 1))) (oVar 1))) (vVar 4))) (sSeq (sSet 5 (eV (vTup (lCons (vVar 1) (lCons (oE (eL tupleF (lCons (oVar 3) (lNil)))) (lNil)))))) (sSeq (sIf (bNot (bT (oE (eCall 1 fm_is_sheet (lCons (oVar 5) (lNil)))))) (sRai "BadSheet") (sSkip)) (sRetV 5)))))
def fm_part : FM := runD N_part m_part
abbrev N_mirrored : List Str := ["sheet", "x", "y"]
def m_mirrored : SM := sSeq (sExp (eCall 1 fm_look (lCons (oVar 0) (lNil)))) (sRet (eCall 2 fm_led (lCons (oVar 0) (lCons (oE (eLc (.tup [1, 2]) [1, 2] (iA (o2 idxF (vVar 0) (oC (.int 0)))) (bYes) (vTup (lCons (vNeg (oVar 1)) (lCons (vVar 2) (lNil)))))) (lNil)))))
def fm_mirrored : FM := runD N_mirrored m_mirrored
abbrev N_line_in : List Str := ["line", "words", "word"]
def m_line_in : SM := sSeq (sSet 1 (eM1 splF (oVar 0) (oC (.str " ")))) (sSeq (sIf (bOr (b2 neF (oE (eL lenF (lCons (oVar 1) (lNil)))) (oC (.int 3))) (b2 notInF (o2 idxF (oVar 1) (oC (.int 0))) (vTup (lCons (oC (.str "field")) (lCons (oC (.str "right")) (lCons (oC (.str "down")) (lNil))))))) (sRet (eV (oC .none))) (sSkip)) (sSeq (sIf (bT (oE (eLc (.one 2) [2] (iA (oE (eSlc (oVar 1) (pSome (oC (.int 1))) (pNo)))) (bOr (b2 neF (oE (eL lenF (lCons (oVar 2) (lNil)))) (oC (.int 1))) (b2 notInF (oVar 2) (oC (.str "01234567")))) (vVar 2)))) (sRet (eV (oC .none))) (sSkip)) (sRet (eV (vTup (lCons (vI (o2 idxF (oVar 1) (oC (.int 0)))) (lCons (oE (eM1 idxSF (oC (.str "01234567")) (o2 idxF (oVar 1) (oC (.int 1))))) (lCons (oE (eM1 idxSF (oC (.str "01234567")) (o2 idxF (oVar 1) (oC (.int 2))))) (lNil)))))))))
def fm_line_in : FM := runD N_line_in m_line_in
abbrev N_read : List Str := ["text", "fields", "pricks", "number", "line", "found", "sheet"]
def mb_read_1 : SM := sSeq (sSet 5 (eCall 1 fm_line_in (lCons (oVar 4) (lNil)))) (sSeq (sIf (bOr (b2 isNF (oVar 5) (oC .none)) (bAnd (b2 eqF (o2 idxF (oVar 5) (oC (.int 0))) (oC (.str "field"))) (bT (oVar 2)))) (sRaiF "BadText" "line" (oVar 3)) (sSkip)) (sIf (b2 eqF (o2 idxF (oVar 5) (oC (.int 0))) (oC (.str "field"))) (sApp 1 (oE (eSlc (oVar 5) (pSome (oC (.int 1))) (pNo)))) (sFrz 5 (sApp 2 (vVar 5)))))
def m_read : SM := sSeq (sIf (bNot (bT (oIs "str" (oVar 0)))) (sRaiF "BadText" "line" (oC .none)) (sSkip)) (sSeq (sPar 1 2 (eLst (lNil)) (eLst (lNil))) (sSeq (sFor (.tup [3, 4]) (iEn (lCons (oE (eM1 splF (oVar 0) (oC (.str "\n")))) (lNil))) (mb_read_1)) (sSeq (sSet 6 (eV (vTup (lCons (oE (eL tupleF (lCons (oVar 1) (lNil)))) (lCons (oE (eL tupleF (lCons (oVar 2) (lNil)))) (lNil)))))) (sSeq (sIf (bNot (bT (oE (eCall 1 fm_is_sheet (lCons (oVar 6) (lNil)))))) (sRaiF "BadText" "line" (oC .none)) (sSkip)) (sRetV 6)))))
def fm_read : FM := runD N_read m_read
abbrev N_mark_at : List Str := ["sheet", "x", "y", "here"]
def m_mark_at : SM := sSeq (sSet 3 (eV (vTup (lCons (oE (e2 (iF divC fun i j => i / j) (oVar 1) (oC (.int 2)))) (lCons (vVar 2) (lNil)))))) (sSeq (sIf (b2 eqF (oE (e2 (iF modC fun i j => i % j) (oVar 1) (oC (.int 2)))) (oC (.int 0))) (sRet (eV (mIf (b2 inF (oVar 3) (o2 idxF (oVar 0) (oC (.int 0)))) (oC (.str "o")) (oC (.str " "))))) (sSkip)) (sSeq (sIf (bOr (b2 notInF (oVar 3) (o2 idxF (oVar 0) (oC (.int 0)))) (b2 notInF (vTup (lCons (oE (e2 addF (o2 idxF (oVar 3) (oC (.int 0))) (oC (.int 1)))) (lCons (vVar 2) (lNil)))) (o2 idxF (oVar 0) (oC (.int 0))))) (sRet (eV (oC (.str " ")))) (sSkip)) (sRet (eV (mIf (b2 inF (oE (e2 addF (vTup (lCons (oC (.str "right")) (lNil))) (oVar 3))) (o2 idxF (oVar 0) (oC (.int 1)))) (oC (.str ".")) (oC (.str "-")))))))
def fm_mark_at : FM := runD N_mark_at m_mark_at
abbrev N_sign_below : List Str := ["sheet", "x", "y", "here"]
def m_sign_below : SM := sSeq (sSet 3 (eV (vTup (lCons (oE (e2 (iF divC fun i j => i / j) (oVar 1) (oC (.int 2)))) (lCons (vVar 2) (lNil)))))) (sSeq (sIf (bOr (b2 eqF (oE (e2 (iF modC fun i j => i % j) (oVar 1) (oC (.int 2)))) (oC (.int 1))) (bOr (b2 notInF (oVar 3) (o2 idxF (oVar 0) (oC (.int 0)))) (b2 notInF (vTup (lCons (o2 idxF (vVar 3) (oC (.int 0))) (lCons (oE (e2 addF (oVar 2) (oC (.int 1)))) (lNil)))) (o2 idxF (oVar 0) (oC (.int 0)))))) (sRet (eV (oC (.str " ")))) (sSkip)) (sRet (eV (mIf (b2 inF (oE (e2 addF (vTup (lCons (oC (.str "down")) (lNil))) (oVar 3))) (o2 idxF (oVar 0) (oC (.int 1)))) (oC (.str ".")) (oC (.str "|"))))))
def fm_sign_below : FM := runD N_sign_below m_sign_below
end TS
/-! A1: typed data: fields, borders, their forms as data; membership, keys, order -/
namespace TS
open PySem PySem.Spec PyProof.Rows L2

abbrev Fl := Int × Int
abbrev Br := Bool × Int × Int
def wd (b : Bool) : Str := if b = true then "right" else "down"
theorem wd_eq (a b : Bool) : (wd a == wd b) = decide (a = b) := by cases a <;> cases b <;> decide +kernel
/-- data of one kind -/
class En (α : Type) [DecidableEq α] where
  en : α → D
  eqv : ∀ a b, PyData.eqv (en a) (en b) = decide (a = b)
  lay : ∀ a, (en a).canLay0 = true
  dep : ∀ a, (en a).depth ≤ 60
  imm : ∀ a, TS.imm (en a) = true
  alk : ∀ a b, W.alike (en a) (en b) = true
/-- and their keys -/
class EnK (α : Type) [DecidableEq α] extends En α where
  ks : α → NK
  kof : ∀ a, kOf (en a) = some (ks a)
  inj : ∀ a b, ks a = ks b → a = b
/-- no empty tuple -/
class Tp (α : Type) [DecidableEq α] [En α] : Prop where
  tup : ∀ a : α, tupNE (En.en a) = true
def eF (f : Fl) : D := .tuple [.int f.1, .int f.2]
def eB (b : Br) : D := .tuple [.str (wd b.1), .int b.2.1, .int b.2.2]
instance : EnK Fl where
  en := eF
  eqv a b := by
    obtain ⟨a1, a2⟩ := a; obtain ⟨b1, b2⟩ := b
    simp only [eF, PyData.eqv, PyData.eqvAll, Prod.mk.injEq]
    by_cases h1 : a1 = b1 <;> by_cases h2 : a2 = b2 <;> simp [h1, h2]
  lay a := by simp [eF, PyData.canLay0, PyData.canLayAll0]
  dep a := by simp [eF, PyData.depth, PyData.depthAll]
  imm a := by simp [eF, TS.imm, immA]
  alk a b := by simp [eF, W.alike, W.alikeAll]
  ks f := .tup [.num f.1, .num f.2]
  kof f := by rfl
  inj a b h := by cases a; cases b; simp at h; simp [h]
instance : Tp Fl := ⟨fun _ => rfl⟩
theorem wd_lay (b : Bool) : PyData.canLay0 (.str (wd b)) = true := by cases b <;> decide +kernel
instance : EnK Br where
  en := eB
  eqv a b := by
    obtain ⟨a0, a1, a2⟩ := a; obtain ⟨b0, b1, b2⟩ := b
    simp only [eB, PyData.eqv, PyData.eqvAll, wd_eq, Prod.mk.injEq]
    by_cases h0 : a0 = b0 <;> by_cases h1 : a1 = b1 <;> by_cases h2 : a2 = b2 <;> simp [h0, h1, h2]
  lay a := by simp [eB, PyData.canLay0, PyData.canLayAll0]; exact wd_lay a.1
  dep a := by simp [eB, PyData.depth, PyData.depthAll]
  imm a := by simp [eB, TS.imm, immA]
  alk a b := by simp [eB, W.alike, W.alikeAll]
  ks b := .tup [.text (wd b.1), .num b.2.1, .num b.2.2]
  kof f := by rfl
  inj a b h := by
    obtain ⟨a0, a1, a2⟩ := a; obtain ⟨b0, b1, b2⟩ := b
    simp at h
    obtain ⟨h0, h1, h2⟩ := h
    have : a0 = b0 := of_decide_eq_true (by rw [← wd_eq, h0]; simp)
    simp [this, h1, h2]
instance : Tp Br := ⟨fun _ => rfl⟩
section
variable {α : Type} [DecidableEq α]
open En EnK
section
variable [En α]
theorem layAll (xs : List α) : PyData.canLayAll0 (xs.map en) = true := by
  induction xs with
  | nil => rfl
  | cons x xs ih => simp [PyData.canLayAll0, lay, ih]
theorem depAll (xs : List α) : PyData.depthAll (xs.map en) ≤ 60 := by
  induction xs with
  | nil => simp [PyData.depthAll]
  | cons x xs ih => simp only [List.map_cons, PyData.depthAll]; have := dep x; omega
theorem immAll (xs : List α) : immA (xs.map en) = true := by
  induction xs with
  | nil => rfl
  | cons x xs ih => simp [immA, En.imm, ih]
theorem shp1 (a : α) : SeqAt.shaped (en a) = true := by
  have := dep a
  simp [SeqAt.shaped, lay]; omega
theorem shpT (xs : List α) : SeqAt.shaped (.tuple (xs.map en)) = true := by
  have := depAll xs
  simp only [SeqAt.shaped, PyData.canLay0, layAll, Bool.true_and, decide_eq_true_eq]
  have e : ∀ zs : List D, (PyData.tuple zs).depth = PyData.depthAll zs + 1 := fun zs => by simp [PyData.depth]
  have e' : ∀ zs : List D, (PyData.list zs).depth = PyData.depthAll zs + 1 := fun zs => by simp [PyData.depth]
  first | rw [e] | rw [e']
  omega
theorem shpL (xs : List α) : SeqAt.shaped (.list (xs.map en)) = true := by
  have := depAll xs
  simp only [SeqAt.shaped, PyData.canLay0, layAll, Bool.true_and, decide_eq_true_eq]
  have e : ∀ zs : List D, (PyData.tuple zs).depth = PyData.depthAll zs + 1 := fun zs => by simp [PyData.depth]
  have e' : ∀ zs : List D, (PyData.list zs).depth = PyData.depthAll zs + 1 := fun zs => by simp [PyData.depth]
  first | rw [e] | rw [e']
  omega
theorem any_eqv (xs : List α) (a : α) : ((xs.map en).any fun z => PyData.eqv z (en a)) = decide (a ∈ xs) := by
  induction xs with
  | nil => simp
  | cons x xs ih =>
    rw [List.map_cons, List.any_cons, ih, eqv]
    by_cases h : x = a
    · subst h; simp
    · have h2 : ¬ a = x := fun e => h e.symm
      by_cases h' : a ∈ xs <;> simp [h, h2, h']
theorem in_tup (xs : List α) (a : α) : inF (en a) (.tuple (xs.map en)) = some (decide (a ∈ xs)) := by
  rw [inF, if_pos ⟨shp1 a, shpT xs⟩, any_eqv]
theorem in_lst (xs : List α) (a : α) : inF (en a) (.list (xs.map en)) = some (decide (a ∈ xs)) := by
  rw [inF, if_pos ⟨shp1 a, shpL xs⟩, any_eqv]
theorem nin_tup (xs : List α) (a : α) : notInF (en a) (.tuple (xs.map en)) = some (decide (a ∉ xs)) := by
  rw [notInF, in_tup]; simp
theorem nin_lst (xs : List α) (a : α) : notInF (en a) (.list (xs.map en)) = some (decide (a ∉ xs)) := by
  rw [notInF, in_lst]; simp
theorem eqvAll_map : ∀ (xs ys : List α), PyData.eqvAll (xs.map en) (ys.map en) = decide (xs = ys)
  | [], [] => rfl
  | [], _ :: _ => rfl
  | _ :: _, [] => rfl
  | x :: xs, y :: ys => by
    simp only [List.map_cons, PyData.eqvAll, eqv, eqvAll_map xs ys, List.cons.injEq]
    by_cases h : x = y <;> by_cases h' : xs = ys <;> simp [h, h']
theorem eq_lst (xs ys : List α) : eqF (.list (xs.map en)) (.list (ys.map en)) = some (decide (xs = ys)) := by
  rw [eqF, if_pos ⟨shpL xs, shpL ys⟩, PyData.eqv, eqvAll_map]
theorem eq_tup (xs ys : List α) : eqF (.tuple (xs.map en)) (.tuple (ys.map en)) = some (decide (xs = ys)) := by
  rw [eqF, if_pos ⟨shpT xs, shpT ys⟩, PyData.eqv, eqvAll_map]
theorem ne_lst (xs ys : List α) : neF (.list (xs.map en)) (.list (ys.map en)) = some (decide (xs ≠ ys)) := by
  rw [neF, if_pos ⟨shpL xs, shpL ys⟩, PyData.eqv, eqvAll_map]; simp
theorem ne_tup (xs ys : List α) : neF (.tuple (xs.map en)) (.tuple (ys.map en)) = some (decide (xs ≠ ys)) := by
  rw [neF, if_pos ⟨shpT xs, shpT ys⟩, PyData.eqv, eqvAll_map]; simp
theorem eq_one (a b : α) : eqF (en a) (en b) = some (decide (a = b)) := by rw [eqF, if_pos ⟨shp1 a, shp1 b⟩, eqv]
theorem ne_one (a b : α) : neF (en a) (en b) = some (decide (a ≠ b)) := by rw [neF, if_pos ⟨shp1 a, shp1 b⟩, eqv]; simp
/-! order -/
def leE (a b : α) : Bool := W.dataLe false id (en a) (en b)
theorem sort_map (xs : List α) : sortD (xs.map en) = (xs.mergeSort leE).map en := by
  rw [sortD_ms]
  exact (List.map_mergeSort (f := en) (r := leE) (s := W.dataLe false id) (l := xs) (fun a _ b _ => rfl)).symm
theorem sortOk_mapH (xs : List α) (h : xs.length ≤ 1000000) (ht : ∀ a ∈ xs, tupNE (en a) = true) : sortOk (xs.map en) = true := by
  simp only [sortOk, immAll, Bool.true_and, Bool.and_eq_true, List.all_eq_true, List.mem_map, Bool.or_eq_true, decide_eq_true_eq, List.length_map]
  refine ⟨⟨⟨⟨?_, ?_⟩, ?_⟩, h⟩, ?_⟩
  · rintro _ ⟨a, _, rfl⟩ _ ⟨b, _, rfl⟩; exact alk a b
  · left; rintro _ ⟨a, ha, rfl⟩; exact ht a ha
  · rintro _ ⟨a, _, rfl⟩; exact dep a
  · rintro _ ⟨a, _, rfl⟩; exact lay a
theorem sorted_lH (xs : List α) (h : xs.length ≤ 1000000) (ht : ∀ a ∈ xs, tupNE (en a) = true) : sortedF [.list (xs.map en)] = some (.ownL ((xs.mergeSort leE).map en)) := by
  simp only [sortedF, seqF, sortOk_mapH xs h ht, if_true, sort_map]
theorem sorted_tH (xs : List α) (h : xs.length ≤ 1000000) (ht : ∀ a ∈ xs, tupNE (en a) = true) : sortedF [.tuple (xs.map en)] = some (.ownL ((xs.mergeSort leE).map en)) := by
  simp only [sortedF, seqF, sortOk_mapH xs h ht, if_true, sort_map]
theorem sorted_l [Tp α] (xs : List α) (h : xs.length ≤ 1000000) : sortedF [.list (xs.map en)] = some (.ownL ((xs.mergeSort leE).map en)) := sorted_lH xs h fun a _ => Tp.tup a
theorem sorted_t [Tp α] (xs : List α) (h : xs.length ≤ 1000000) : sortedF [.tuple (xs.map en)] = some (.ownL ((xs.mergeSort leE).map en)) := sorted_tH xs h fun a _ => Tp.tup a
theorem tuple_l (xs : List α) (h : xs.length ≤ 1000000) : tupleF [.list (xs.map en)] = some (.val (.tuple (xs.map en))) := by
  simp only [tupleF, immAll, List.length_map, h, and_self, if_true]
end
section
variable [EnK α]
theorem nkey_en (a : α) : nkey (en a) = some (ks a) := (kOf_some (kof a)).2.1
/-- {x: True} -/
def kvT (xs : List α) : List (D × D) := xs.map fun a => (en a, .bool true)
theorem dFind_kvT (xs : List α) (a : α) : (dFind (kvT xs) (ks a)).isSome = decide (a ∈ xs) := by
  induction xs with
  | nil => rfl
  | cons x xs ih =>
    simp only [dFind, kvT, List.map_cons, List.find?_cons, nkey_en, Option.some.injEq] at ih ⊢
    by_cases h : x = a
    · subst h; simp
    · have : ks x ≠ ks a := fun e => h (inj _ _ e)
      simp only [this, decide_false, List.mem_cons, eq_comm (a := a), h, false_or]
      exact ih
theorem in_kvT (xs : List α) (a : α) : inF (en a) (.dict (kvT xs)) = some (decide (a ∈ xs)) := by
  simp only [inF, kof, dFind_kvT]
theorem nin_kvT (xs : List α) (a : α) : notInF (en a) (.dict (kvT xs)) = some (decide (a ∉ xs)) := by
  rw [notInF, in_kvT]; simp
theorem dPut_kvT (xs : List α) (a : α) : dPut (kvT xs) (ks a) (en a) (.bool true) = kvT (if a ∈ xs then xs else xs ++ [a]) := by
  rw [dPut, dFind_kvT]
  by_cases h : a ∈ xs
  · simp only [h, decide_true, if_true]
    simp only [kvT, List.map_map]
    refine List.map_congr_left fun x _ => ?_
    simp only [Function.comp]
    split <;> rfl
  · simp only [h, decide_false, Bool.false_eq_true, if_false]
    simp [kvT]
theorem dDrop_kvT (xs : List α) (a : α) : dDrop (kvT xs) (ks a) = kvT (xs.filter fun x => decide (x ≠ a)) := by
  simp only [dDrop, kvT, List.filter_map]
  congr 1
  refine List.filter_congr fun x _ => ?_
  simp only [Function.comp, nkey_en, ne_eq, Option.some.injEq]
  by_cases h : x = a
  · simp [h]
  · have : ks x ≠ ks a := fun e => h (inj _ _ e)
    simp [h, this]
end
end
/-! the order of fields, of borders -/
theorem leF_iff (a b : Fl) : leE a b = decide (a.1 < b.1 ∨ (a.1 = b.1 ∧ a.2 ≤ b.2)) := by
  show W.dataLe false (fun b : Fl => .tuple [.int b.1, .int b.2]) a b = _
  rw [W.dataLe_ii]
def ltB (a b : Br) : Bool := if a.1 = b.1 then decide (a.2.1 < b.2.1 ∨ (a.2.1 = b.2.1 ∧ a.2.2 < b.2.2)) else b.1
theorem wd_lt (a b : Bool) : decide ((wd a).cps.toList < (wd b).cps.toList) = (!a && b) := by cases a <;> cases b <;> decide +kernel
theorem dataLt_B (a b : Br) : W.dataLt (eB a) (eB b) = ltB a b := by
  obtain ⟨a0, a1, a2⟩ := a; obtain ⟨b0, b1, b2⟩ := b
  simp only [eB]
  rw [W.dataLt_tuple, W.dataLt_cons (by simp [W.alike]), W.dataLt_str]
  have e := W.dataLt_ii a1 a2 b1 b2
  rw [W.dataLt_tuple] at e
  rw [e]
  simp only [PyData.eqv, wd_eq, wd_lt, ltB]
  cases a0 <;> cases b0 <;> simp
theorem leB_iff (a b : Br) : leE a b = !ltB b a := by rw [← dataLt_B]; rfl
/-- a good order -/
class Ord (α : Type) [DecidableEq α] [En α] : Prop where
  tr : ∀ a b c : α, leE a b = true → leE b c = true → leE a c = true
  tot : ∀ a b : α, (leE a b || leE b a) = true
  anti : ∀ a b : α, leE a b = true → leE b a = true → a = b
theorem leE_lt {α : Type} [DecidableEq α] [En α] (a b : α) : leE a b = !W.dataLt (En.en b) (En.en a) := rfl
theorem toks_inj {α : Type} [DecidableEq α] [En α] {a b : α} (h1 : W.dataLt (En.en a) (En.en b) = false) (h2 : W.dataLt (En.en b) (En.en a) = false) : a = b := by
  have h := (W.toks_eqv _ _ (En.alk a b)).2
  rw [En.eqv] at h
  refine Classical.byContradiction fun q => ?_
  have e := h (decide_eq_false q) [] [.inl 0]
  have hT : W.keyToks (En.en a) = W.keyToks (En.en b) := lex_total _ _ h1 h2
  rw [hT, W.lex_pre, lex_irrefl] at e
  cases e
instance {α : Type} [DecidableEq α] [En α] : Ord α where
  tr a b c h1 h2 := by
    rw [leE_lt, Bool.not_eq_true'] at h1 h2 ⊢
    cases q : W.dataLt (En.en c) (En.en a) with
    | false => rfl
    | true =>
      rcases lex_negTrans _ (W.keyToks (En.en b)) _ q with z | z
      · exact absurd (h2.symm.trans z) Bool.false_ne_true
      · exact absurd (h1.symm.trans z) Bool.false_ne_true
  tot a b := by
    rw [leE_lt, leE_lt]
    cases q1 : W.dataLt (En.en b) (En.en a) with
    | false => rfl
    | true =>
      cases q2 : W.dataLt (En.en a) (En.en b) with
      | false => rfl
      | true =>
        have := lex_trans _ _ _ q1 q2
        rw [lex_irrefl] at this; cases this
  anti a b h1 h2 := by
    rw [leE_lt, Bool.not_eq_true'] at h1 h2
    exact toks_inj h2 h1
section
variable {α : Type} [DecidableEq α] [En α] [Ord α]
def sE (xs : List α) : List α := xs.mergeSort leE
theorem sE_perm (xs : List α) : (sE xs).Perm xs := List.mergeSort_perm _ _
theorem sE_mem (xs : List α) (a : α) : a ∈ sE xs ↔ a ∈ xs := (sE_perm xs).mem_iff
theorem sE_len (xs : List α) : (sE xs).length = xs.length := (sE_perm xs).length_eq
def Srt (xs : List α) : Prop := xs.Pairwise fun a b => leE a b = true
theorem sE_srt (xs : List α) : Srt (sE xs) := List.pairwise_mergeSort Ord.tr Ord.tot xs
theorem sE_of {xs : List α} (h : Srt xs) : sE xs = xs := List.mergeSort_of_pairwise h
theorem srt_uniq {xs ys : List α} (h1 : Srt xs) (h2 : Srt ys) (p : xs.Perm ys) : xs = ys := List.Perm.eq_of_pairwise (fun a b _ _ => Ord.anti a b) h1 h2 p
theorem sE_congr {xs ys : List α} (p : xs.Perm ys) : sE xs = sE ys := srt_uniq (sE_srt _) (sE_srt _) ((sE_perm xs).trans (p.trans (sE_perm ys).symm))
end
/-- two lists without doubles that hold the same are alike but for order -/
theorem perm_of {α : Type} [DecidableEq α] {xs ys : List α} (h1 : xs.Nodup) (h2 : ys.Nodup) (h : ∀ a, a ∈ xs ↔ a ∈ ys) : xs.Perm ys := by
  rw [List.perm_iff_count]
  intro a
  rw [h1.count, h2.count]
  simp [h a]
end TS
/-! A2: loops and comprehensions over typed data -/
namespace TS
open PySem PySem.Spec PyProof.Rows L2 En EnK

theorem mLc_of {α : Type} (enc : α → D) (p : α → Bool) (g : α → D) {t : Tgt} {vs : List Nat} {c : BM} {e : OM} {ρ : Regs} : ∀ (xs : List α), (∀ a ∈ xs, ∃ ρ1, tgtM t (enc a) (wipeR ρ vs) = some ρ1 ∧ c ρ1 = ok (p a) ∧ (p a = true → e ρ1 = ok (g a))) →
    mLc t vs c e ρ (xs.map enc) = some ((xs.filter p).map g)
  | [], _ => rfl
  | a :: xs, h => by
    obtain ⟨ρ1, h1, h2, h3⟩ := h a List.mem_cons_self
    have ih := mLc_of enc p g xs fun b hb => h b (List.mem_cons_of_mem _ hb)
    rw [List.map_cons, mLc, h1]
    simp only [h2, ok]
    cases hp : p a with
    | true =>
      simp only [h3 hp, ok, ih, List.filter_cons, hp, if_true]
      rfl
    | false => simp only [ih, List.filter_cons, hp]; rfl
theorem eLc_of {α : Type} (enc : α → D) (p : α → Bool) (g : α → D) {t : Tgt} {vs : List Nat} {it : LM} {c : BM} {e : OM} {ρ : Regs} (xs : List α) (hi : it ρ = ok (xs.map enc)) (hp : plainAt ρ vs = true) (hl : xs.length ≤ 1000)
    (h : ∀ a ∈ xs, ∃ ρ1, tgtM t (enc a) (wipeR ρ vs) = some ρ1 ∧ c ρ1 = ok (p a) ∧ (p a = true → e ρ1 = ok (g a))) : eLc t vs it c e ρ = ok (.ownL ((xs.filter p).map g)) := by
  have hl2 : ((xs.filter p).map g).length ≤ 1000 := by
    rw [List.length_map]; exact Nat.le_trans (List.length_filter_le _ _) hl
  simp only [eLc, hi, eb_ok, hp, if_true, mLc_of enc p g xs h, hl2]
/-- one by one, what is new -/
def addT {α : Type} [DecidableEq α] (acc xs : List α) : List α := xs.foldl (fun acc a => if a ∈ acc then acc else acc ++ [a]) acc
theorem addT_mem {α : Type} [DecidableEq α] (a : α) : ∀ (xs acc : List α), a ∈ addT acc xs ↔ a ∈ acc ∨ a ∈ xs
  | [], acc => by simp [addT]
  | x :: xs, acc => by
    rw [show addT acc (x :: xs) = addT (if x ∈ acc then acc else acc ++ [x]) xs from rfl, addT_mem a xs]
    by_cases h : x ∈ acc
    · simp only [h, if_true, List.mem_cons]
      constructor
      · rintro (h1 | h1) <;> simp [h1]
      · rintro (h1 | rfl | h1)
        · exact .inl h1
        · exact .inl h
        · exact .inr h1
    · simp [h, or_assoc]
theorem addT_len {α : Type} [DecidableEq α] : ∀ (xs acc : List α), (addT acc xs).length ≤ acc.length + xs.length
  | [], acc => by simp [addT]
  | x :: xs, acc => by
    rw [show addT acc (x :: xs) = addT (if x ∈ acc then acc else acc ++ [x]) xs from rfl]
    refine Nat.le_trans (addT_len xs _) ?_
    split <;> simp <;> omega
theorem addT_new {α : Type} [DecidableEq α] : ∀ (xs acc : List α), (acc ++ xs).Nodup → addT acc xs = acc ++ xs
  | [], acc, _ => by simp [addT]
  | x :: xs, acc, h => by
    rw [show addT acc (x :: xs) = addT (if x ∈ acc then acc else acc ++ [x]) xs from rfl]
    have hx : x ∉ acc := fun h1 => (List.nodup_append.mp h).2.2 x h1 x List.mem_cons_self rfl
    rw [if_neg hx, addT_new xs _ (by simpa using h)]
    simp
theorem addT_nodup {α : Type} [DecidableEq α] : ∀ (xs acc : List α), acc.Nodup → (addT acc xs).Nodup
  | [], acc, h => by simpa [addT] using h
  | x :: xs, acc, h => by
    rw [show addT acc (x :: xs) = addT (if x ∈ acc then acc else acc ++ [x]) xs from rfl]
    refine addT_nodup xs _ ?_
    split
    · exact h
    · rename_i hx
      rw [List.nodup_append]
      exact ⟨h, by simp, fun a ha b hb e => hx (by simp at hb; rw [← hb, ← e]; exact ha)⟩
theorem mDc_of {α β : Type} [DecidableEq β] [EnK β] (enc : α → D) (p : α → Bool) (g : α → β) {t : Tgt} {vs : List Nat} {c : BM} {km vm : OM} {ρ : Regs} : ∀ (xs : List α) (acc : List β), acc.length + xs.length ≤ 1000 → (∀ a ∈ xs, ∃ ρ1, tgtM t (enc a) (wipeR ρ vs) = some ρ1 ∧ c ρ1 = ok (p a) ∧ (p a = true → km ρ1 = ok (en (g a)) ∧ vm ρ1 = ok (.bool true))) →
    mDc t vs c km vm ρ (xs.map enc) (kvT acc) = some (kvT (addT acc ((xs.filter p).map g)))
  | [], _, _, _ => rfl
  | a :: xs, acc, hl, h => by
    obtain ⟨ρ1, h1, h2, h3⟩ := h a List.mem_cons_self
    have hr : ∀ b ∈ xs, _ := fun b hb => h b (List.mem_cons_of_mem _ hb)
    rw [List.map_cons, mDc, h1]
    simp only [h2, ok]
    simp only [List.length_cons] at hl
    cases hp : p a with
    | true =>
      obtain ⟨h4, h5⟩ := h3 hp
      have hk : (kvT acc).length < 1000 := by simp only [kvT, List.length_map]; omega
      simp only [h4, h5, ok, kof, hk, if_true, dPut_kvT]
      rw [mDc_of enc p g xs _ (by split <;> (try simp only [List.length_append, List.length_cons, List.length_nil]) <;> omega) hr]
      simp [addT, List.filter_cons, hp]
    | false =>
      rw [mDc_of enc p g xs acc (by omega) hr]
      simp [List.filter_cons, hp]
theorem eDc_of {α β : Type} [DecidableEq β] [EnK β] (enc : α → D) (p : α → Bool) (g : α → β) {t : Tgt} {vs : List Nat} {it : LM} {c : BM} {km vm : OM} {ρ : Regs} (xs : List α) (hi : it ρ = ok (xs.map enc)) (hp : plainAt ρ vs = true) (hl : xs.length ≤ 1000)
    (h : ∀ a ∈ xs, ∃ ρ1, tgtM t (enc a) (wipeR ρ vs) = some ρ1 ∧ c ρ1 = ok (p a) ∧ (p a = true → km ρ1 = ok (en (g a)) ∧ vm ρ1 = ok (.bool true))) : eDc t vs it c km vm ρ = ok (.ownD (kvT (addT [] ((xs.filter p).map g)))) := by
  have := mDc_of enc p g (c := c) (km := km) (vm := vm) xs [] (by simpa using hl) h
  simp only [kvT, List.map_nil] at this
  simp only [eDc, hi, eb_ok, hp, if_true, this]
  rfl
theorem mFor_of {α : Type} (enc : α → D) {t : Tgt} {m : SM} (I : List α → Regs → Prop) (xs : List α) (h : ∀ pre a post ρ, pre ++ a :: post = xs → I pre ρ → ∃ ρ1 ρ2, tgtM t (enc a) ρ = some ρ1 ∧ m ρ1 = some (.nx ρ2) ∧ I (pre ++ [a]) ρ2) :
    ∀ ρ, I [] ρ → ∃ ρ', mFor t m (xs.map enc) ρ = some (.nx ρ') ∧ I xs ρ' := by
  suffices H : ∀ (ys pre : List α) (ρ : Regs), pre ++ ys = xs → I pre ρ → ∃ ρ', mFor t m (ys.map enc) ρ = some (.nx ρ') ∧ I xs ρ' from fun ρ i => H xs [] ρ rfl i
  intro ys
  induction ys with
  | nil =>
    intro pre ρ e i
    rw [List.append_nil] at e
    subst e
    exact ⟨ρ, rfl, i⟩
  | cons a ys ih =>
    intro pre ρ e i
    obtain ⟨ρ1, ρ2, h1, h2, h3⟩ := h pre a ys ρ e i
    obtain ⟨ρ', h4, h5⟩ := ih (pre ++ [a]) ρ2 (by simpa using e) h3
    refine ⟨ρ', ?_, h5⟩
    simp only [List.map_cons, mFor, h1, h2, h4]
theorem mWhile_of {β : Type} {c : BM} {b : SM} (I : β → Regs → Prop) (Dn : β → Regs → Prop) (mu : β → Nat) (h : ∀ s ρ, I s ρ → (c ρ = ok false ∧ Dn s ρ) ∨ (c ρ = ok true ∧ ∃ s' ρ', b ρ = some (.nx ρ') ∧ I s' ρ' ∧ mu s' < mu s)) :
    ∀ n s ρ, I s ρ → mu s < n → ∃ s' ρ', mWhile c b n ρ = some (.nx ρ') ∧ I s' ρ' ∧ Dn s' ρ'
  | 0, _, _, _, hn => by omega
  | n + 1, s, ρ, i, hn => by
    rcases h s ρ i with ⟨h1, h2⟩ | ⟨h1, s', ρ', h2, h3, h4⟩
    · exact ⟨s, ρ, by simp [mWhile, sb, h1, ok], i, h2⟩
    · obtain ⟨s2, ρ2, e, i2, d2⟩ := mWhile_of I Dn mu h n s' ρ' h3 (by omega)
      exact ⟨s2, ρ2, by simp [mWhile, sb, h1, h2, e, ok], i2, d2⟩
end TS
/-! A0: each combinator at its registers: the rows simp goes by -/
namespace TS
open PySem PySem.Spec PyProof.Rows L2 En EnK
def sbK {α : Type} (r : ER α) (f : Regs → α → Option Out) (ρ : Regs) : Option Out := match r with
  | none => none
  | some (.inr x) => some (.ex x ρ)
  | some (.inl a) => f ρ a
def negF (d : D) : ER D := match d with
  | .int i => ok (.int (-i))
  | _ => none
def andK (d : D) (r : ER D) : ER D := match d with
  | .bool b => if b = true then r else ok (.bool false)
  | _ => none
def orK (d : D) (r : ER D) : ER D := match d with
  | .bool b => if b = true then ok (.bool true) else r
  | _ => none
def somK (d : D) : ER (Option Int) := match d with
  | .int i => ok (some i)
  | _ => none
def rng1 (ds : List D) : ER (List D) := match ds with
  | [.int j] => if -1000 ≤ j ∧ j < 1000 then ok (rngD 0 j.toNat) else none
  | _ => none
def enK (ds : List D) : ER (List D) := match ds with
  | [.list xs] => ok (enD 0 xs)
  | _ => none
def zpK (ds : List D) : ER (List D) := match ds with
  | [.list xs, .list ys] => ok (zpD xs ys)
  | [.tuple xs, .tuple ys] => ok (zpD xs ys)
  | _ => none
def parK (i j : Nat) (r1 : RV) (r : ER RV) (ρ : Regs) : Option Out := match r with
  | some (.inl r2) => if i = j then none else some (.nx ((ρ.set i (some r1)).set j (some r2)))
  | _ => none
def rdK (o : Option Out) : ER RV := match o with
  | some (.nx _) => ok (.val .none)
  | some (.rt rv _) => ok rv
  | some (.ex x _) => some (.inr x)
  | _ => none
@[simp] theorem u_sSeq (a b : SM) (ρ : Regs) : sSeq a b ρ = (match a ρ with | some (.nx ρ') => b ρ' | r => r) := rfl
@[simp] theorem u_sSet (i : Nat) (m : EM) (ρ : Regs) : sSet i m ρ = sb m (fun ρ rv => some (.nx (ρ.set i (some rv)))) ρ := rfl
@[simp] theorem u_sExp (m : EM) (ρ : Regs) : sExp m ρ = sb m (fun ρ _ => some (.nx ρ)) ρ := rfl
@[simp] theorem u_sRet (m : EM) (ρ : Regs) : sRet m ρ = sb m (fun ρ rv => some (.rt rv ρ)) ρ := rfl
@[simp] theorem u_sRetV (i : Nat) (ρ : Regs) : sRetV i ρ = (match ρ[i]? with | some (some rv) => some (.rt rv (ρ.set i none)) | _ => none) := rfl
@[simp] theorem u_sSkip (ρ : Regs) : sSkip ρ = some (.nx ρ) := rfl
@[simp] theorem u_sRetN (ρ : Regs) : sRetN ρ = some (.rt (.val .none) ρ) := rfl
@[simp] theorem u_sIf (c : BM) (a b : SM) (ρ : Regs) : sIf c a b ρ = sb c (fun ρ t => if t = true then a ρ else b ρ) ρ := rfl
@[simp] theorem u_sb_ok {α : Type} (f : Regs → α → Option Out) (ρ : Regs) (a : α) : sbK (ok a) f ρ = f ρ a := rfl
@[simp] theorem u_sb_er {α : Type} (f : Regs → α → Option Out) (ρ : Regs) (x : Exc) : sbK (some (.inr x) : ER α) f ρ = some (.ex x ρ) := rfl
@[simp] theorem u_sb {α : Type} (m : Regs → ER α) (f : Regs → α → Option Out) (ρ : Regs) : sb m f ρ = sbK (m ρ) f ρ := rfl
@[simp] theorem u_sFrz (i : Nat) (m : SM) (ρ : Regs) : sFrz i m ρ = m (frz i ρ) := rfl
@[simp] theorem u_frz (i : Nat) (ρ : Regs) : frz i ρ = (match ρ[i]? with | some (some rv) => ρ.set i (some (.val rv.dat)) | _ => ρ) := rfl
@[simp] theorem u_eV (m : OM) (ρ : Regs) : eV m ρ = eb (m ρ) fun d => ok (.val d) := rfl
@[simp] theorem u_oE (m : EM) (ρ : Regs) : oE m ρ = eb (m ρ) fun r => ok r.dat := rfl
@[simp] theorem u_oVar (i : Nat) (ρ : Regs) : oVar i ρ = (match ρ[i]? with | some (some r) => ok r.dat | _ => none) := rfl
@[simp] theorem u_vVar (i : Nat) (ρ : Regs) : vVar i ρ = (match ρ[i]? with | some (some (.val d)) => ok d | _ => none) := rfl
@[simp] theorem u_oC (d : D) (ρ : Regs) : oC d ρ = ok d := rfl
@[simp] theorem u_lNil (ρ : Regs) : lNil ρ = ok [] := rfl
@[simp] theorem u_lCons (a : OM) (l : LM) (ρ : Regs) : lCons a l ρ = eb (a ρ) fun d => eb (l ρ) fun ds => ok (d :: ds) := rfl
@[simp] theorem u_vTup (l : LM) (ρ : Regs) : vTup l ρ = eb (l ρ) fun ds => if ds.length ≤ 1000 then ok (.tuple ds) else none := rfl
@[simp] theorem u_eLst (l : LM) (ρ : Regs) : eLst l ρ = eb (l ρ) fun ds => if ds.length ≤ 1000 then ok (.ownL ds) else none := rfl
@[simp] theorem u_vI (m : OM) (ρ : Regs) : vI m ρ = eb (m ρ) fun d => if imm d = true then ok d else none := rfl
@[simp] theorem u_e2 (f : D → D → Option RV) (ma mb : OM) (ρ : Regs) : e2 f ma mb ρ = eb (ma ρ) fun x => eb (mb ρ) fun y => lift (f x y) := rfl
@[simp] theorem u_b2 (f : D → D → Option Bool) (ma mb : OM) (ρ : Regs) : b2 f ma mb ρ = eb (ma ρ) fun x => eb (mb ρ) fun y => lift (f x y) := rfl
@[simp] theorem u_o2 (f : D → D → Option D) (ma mb : OM) (ρ : Regs) : o2 f ma mb ρ = eb (ma ρ) fun x => eb (mb ρ) fun y => lift (f x y) := rfl
@[simp] theorem u_iF (c : Int → Int → Bool) (g : Int → Int → Int) (i j : Int) : iF c g (.int i) (.int j) = if c i j = true then some (.val (.int (g i j))) else none := rfl
@[simp] theorem u_yes2 (i j : Int) : yes2 i j = true := rfl
@[simp] theorem u_modC (i j : Int) : modC i j = decide (0 < j) := rfl
@[simp] theorem u_oB (m : BM) (ρ : Regs) : oB m ρ = eb (m ρ) fun b => ok (.bool b) := rfl
@[simp] theorem u_vNeg (m : OM) (ρ : Regs) : vNeg m ρ = eb (m ρ) fun d => negF d := rfl
@[simp] theorem u_negF (i : Int) : negF (.int i) = ok (.int (-i)) := rfl
@[simp] theorem u_bT (m : OM) (ρ : Regs) : bT m ρ = eb (m ρ) fun d => lift (truF d) := rfl
@[simp] theorem u_bNot (m : BM) (ρ : Regs) : bNot m ρ = eb (m ρ) fun b => ok (!b) := rfl
@[simp] theorem u_bAnd (m n : BM) (ρ : Regs) : bAnd m n ρ = eb (m ρ) fun b => if b = true then n ρ else ok false := rfl
@[simp] theorem u_bOr (m n : BM) (ρ : Regs) : bOr m n ρ = eb (m ρ) fun b => if b = true then ok true else n ρ := rfl
@[simp] theorem u_oAnd (m n : OM) (ρ : Regs) : oAnd m n ρ = eb (m ρ) fun d => andK d (n ρ) := rfl
@[simp] theorem u_andK (b : Bool) (r : ER D) : andK (.bool b) r = if b = true then r else ok (.bool false) := rfl
@[simp] theorem u_oOr (m n : OM) (ρ : Regs) : oOr m n ρ = eb (m ρ) fun d => orK d (n ρ) := rfl
@[simp] theorem u_orK (b : Bool) (r : ER D) : orK (.bool b) r = if b = true then ok (.bool true) else r := rfl
@[simp] theorem u_mIf {α : Type} (t : BM) (m n : Regs → ER α) (ρ : Regs) : mIf t m n ρ = eb (t ρ) fun b => if b = true then m ρ else n ρ := rfl
@[simp] theorem u_bChain (f f' : D → D → Option Bool) (ma mb mc : OM) (ρ : Regs) : bChain f f' ma mb mc ρ = eb (ma ρ) fun x => eb (mb ρ) fun y => eb (lift (f x y)) fun b => if b = true then eb (mc ρ) fun z => lift (f' y z) else ok false := rfl
@[simp] theorem u_ltF (p : Int → Int → Bool) (i j : Int) : ltF p (.int i) (.int j) = some (p i j) := rfl
@[simp] theorem u_idxT (xs : List D) (i : Int) : idxF (.tuple xs) (.int i) = atI xs i := rfl
@[simp] theorem u_idxL (xs : List D) (i : Int) : idxF (.list xs) (.int i) = atI xs i := rfl
@[simp] theorem u_pNo (ρ : Regs) : pNo ρ = ok none := rfl
@[simp] theorem u_pSome (m : OM) (ρ : Regs) : pSome m ρ = eb (m ρ) fun d => somK d := rfl
@[simp] theorem u_somK (i : Int) : somK (.int i) = ok (some i) := rfl
@[simp] theorem u_eSlc (ma : OM) (lo hi : PM) (ρ : Regs) : eSlc ma lo hi ρ = eb (ma ρ) fun d => eb (lo ρ) fun l => eb (hi ρ) fun h => lift (sliceF d l h) := rfl
@[simp] theorem u_slL (xs : List D) (lo hi : Option Int) : sliceF (.list xs) lo hi = if immA xs = true then some (.ownL (cutD xs lo hi)) else none := rfl
@[simp] theorem u_slT (xs : List D) (lo hi : Option Int) : sliceF (.tuple xs) lo hi = if immA xs = true then some (.val (.tuple (cutD xs lo hi))) else none := rfl
@[simp] theorem u_eL (f : List D → Option RV) (l : LM) (ρ : Regs) : eL f l ρ = eb (l ρ) fun ds => lift (f ds) := rfl
@[simp] theorem u_lenL (xs : List D) : lenF [.list xs] = some (.val (.int xs.length)) := rfl
@[simp] theorem u_lenT (xs : List D) : lenF [.tuple xs] = some (.val (.int xs.length)) := rfl
@[simp] theorem u_eCall (n : Nat) (f : FM) (l : LM) (ρ : Regs) : eCall n f l ρ = eb (l ρ) fun ds => if ds.length = n then eb (f ds) fun rv => if immRV rv = true then ok rv else none else none := rfl
@[simp] theorem u_eCallV (n : Nat) (f : FM) (l : LM) (ρ : Regs) : eCallV n f l ρ = eb (l ρ) fun ds => if ds.length = n then f ds else none := rfl
@[simp] theorem u_iv (d : D) : immRV (.val d) = imm d := rfl
@[simp] theorem u_il (ds : List D) : immRV (.ownL ds) = immA ds := rfl
@[simp] theorem u_id (kvs : List (D × D)) : immRV (.ownD kvs) = immA (kvs.map (·.2)) := rfl
@[simp] theorem u_dv (d : D) : RV.dat (.val d) = d := rfl
@[simp] theorem u_dl (ds : List D) : RV.dat (.ownL ds) = .list ds := rfl
@[simp] theorem u_dd (ds : List (D × D)) : RV.dat (.ownD ds) = .dict ds := rfl
@[simp] theorem u_oIs (T : String) (m : OM) (ρ : Regs) : oIs T m ρ = eb (m ρ) fun d => eb (lift (isF T d)) fun b => ok (.bool b) := rfl
@[simp] theorem u_trN  : truF .none = some false := rfl
@[simp] theorem u_trB (b : Bool) : truF (.bool b) = some b := rfl
@[simp] theorem u_trI (b : Int) : truF (.int b) = some (b != 0) := rfl
@[simp] theorem u_trL (xs : List D) : truF (.list xs) = some (!xs.isEmpty) := rfl
@[simp] theorem u_trT (xs : List D) : truF (.tuple xs) = some (!xs.isEmpty) := rfl
@[simp] theorem u_iA (m : OM) (ρ : Regs) : iA m ρ = eb (m ρ) fun d => lift (itF d) := rfl
@[simp] theorem u_itL (xs : List D) : itF (.list xs) = some xs := rfl
@[simp] theorem u_itT (xs : List D) : itF (.tuple xs) = some xs := rfl
@[simp] theorem u_itD (xs : List (D × D)) : itF (.dict xs) = some (xs.map (·.1)) := rfl
@[simp] theorem u_sUnp (is : List Nat) (m : OM) (ρ : Regs) : sUnp is m ρ = sb m (fun ρ d => (tgtM (.tup is) d ρ).map .nx) ρ := rfl
@[simp] theorem u_sRai (x : String) (ρ : Regs) : sRai x ρ = some (.ex ⟨x, none⟩ ρ) := rfl
@[simp] theorem u_sRaiF (x : String) (f : Str) (m : OM) (ρ : Regs) : sRaiF x f m ρ = sb m (fun ρ d => some (.ex ⟨x, some (f, d)⟩ ρ)) ρ := rfl
@[simp] theorem u_sFor (t : Tgt) (it : LM) (b : SM) (ρ : Regs) : sFor t it b ρ = sb it (fun ρ ds => mFor t b ds ρ) ρ := rfl
@[simp] theorem u_tg1 (i : Nat) (d : D) (ρ : Regs) : tgtM (.one i) d ρ = some (ρ.set i (some (.val d))) := rfl
@[simp] theorem u_tgt (is : List Nat) (ds : List D) (ρ : Regs) : tgtM (.tup is) (.tuple ds) ρ = setNs is ds ρ := rfl
@[simp] theorem u_sn0 (ρ : Regs) : setNs [] [] ρ = some ρ := rfl
@[simp] theorem u_sn1 (i : Nat) (is : List Nat) (d : D) (ds : List D) (ρ : Regs) : setNs (i :: is) (d :: ds) ρ = setNs is ds (ρ.set i (some (.val d))) := rfl
@[simp] theorem u_wp0 (ρ : Regs) : wipeR ρ [] = ρ := rfl
@[simp] theorem u_wp1 (ρ : Regs) (v : Nat) (vs : List Nat) : wipeR ρ (v :: vs) = (wipeR ρ vs).set v none := rfl
@[simp] theorem u_bYes (ρ : Regs) : bYes ρ = ok true := rfl
@[simp] theorem u_pl0 (ρ : Regs) : plainAt ρ [] = true := rfl
@[simp] theorem u_pl1 (ρ : Regs) (v : Nat) (vs : List Nat) : plainAt ρ (v :: vs) = ((match ρ[v]? with | some (some r) => !isOwn r | _ => true) && plainAt ρ vs) := rfl
@[simp] theorem u_ow1 (d : D) : isOwn (.val d) = false := rfl
@[simp] theorem u_sApp (i : Nat) (m : OM) (ρ : Regs) : sApp i m ρ = (match regL ρ i with | none => none | some ds => sb m (fun ρ d => if ds.length < 1000 then some (.nx (ρ.set i (some (.ownL (ds ++ [d]))))) else none) ρ) := rfl
@[simp] theorem u_sPut (i : Nat) (km vm : OM) (ρ : Regs) : sPut i km vm ρ = sb vm (fun ρ v => match regD ρ i with | none => none | some kvs => sb km (fun ρ dk => match kOf dk with | some k => if kvs.length < 1000 then some (.nx (ρ.set i (some (.ownD (dPut kvs k dk v))))) else none | none => none) ρ) ρ := rfl
@[simp] theorem u_sDPop (i : Nat) (km : OM) (ρ : Regs) : sDPop i km ρ = (match regD ρ i with | none => none | some kvs => sb km (fun ρ dk => match kOf dk with | some k => if (dFind kvs k).isSome = true then some (.nx (ρ.set i (some (.ownD (dDrop kvs k))))) else none | none => none) ρ) := rfl
@[simp] theorem u_regL (i : Nat) (ρ : Regs) : regL ρ i = (match ρ[i]? with | some (some (.ownL ds)) => some ds | _ => none) := rfl
@[simp] theorem u_regD (i : Nat) (ρ : Regs) : regD ρ i = (match ρ[i]? with | some (some (.ownD kvs)) => some kvs | _ => none) := rfl
@[simp] theorem u_iR1 (l : LM) (ρ : Regs) : iR1 l ρ = eb (l ρ) fun ds => rng1 ds := rfl
@[simp] theorem u_rng1 (j : Int) : rng1 [.int j] = if -1000 ≤ j ∧ j < 1000 then ok (rngD 0 j.toNat) else none := rfl
@[simp] theorem u_iEn (l : LM) (ρ : Regs) : iEn l ρ = eb (l ρ) fun ds => enK ds := rfl
@[simp] theorem u_enK (xs : List D) : enK [.list xs] = ok (enD 0 xs) := rfl
@[simp] theorem u_iZp (l : LM) (ρ : Regs) : iZp l ρ = eb (l ρ) fun ds => zpK ds := rfl
@[simp] theorem u_zpL (xs ys : List D) : zpK [.list xs, .list ys] = ok (zpD xs ys) := rfl
@[simp] theorem u_zpT (xs ys : List D) : zpK [.tuple xs, .tuple ys] = ok (zpD xs ys) := rfl
@[simp] theorem u_sWhile (c : BM) (b : SM) (ρ : Regs) : sWhile c b ρ = mWhile c b 1000 ρ := rfl
@[simp] theorem u_eDNew (ρ : Regs) : eDNew ρ = ok (.ownD []) := rfl
@[simp] theorem isN_N : isNF .none .none = some true := rfl
theorem u_isN (d : D) : isNF d .none = some (match d with | .none => true | _ => false) := rfl
@[simp] theorem u_sPar (i j : Nat) (m1 m2 : EM) (ρ : Regs) : sPar i j m1 m2 ρ = sb m1 (fun ρ r1 => parK i j r1 (m2 ρ) ρ) ρ := rfl
@[simp] theorem u_parK (i j : Nat) (r1 r2 : RV) (ρ : Regs) : parK i j r1 (ok r2) ρ = if i = j then none else some (.nx ((ρ.set i (some r1)).set j (some r2))) := rfl
@[simp] theorem u_rD0 (a : Option Out) : rdK a = (match a with | some (.nx _) => ok (.val .none) | some (.rt rv _) => ok rv | some (.ex x _) => some (.inr x) | _ => none) := rfl
@[simp] theorem u_runD (N : List Str) (m : SM) (ds : List D) : runD N m ds = rdK (m (ds.map (fun d => some (.val d)) ++ List.replicate (N.length - ds.length) none)) := rfl
@[simp] theorem is_ii (x : Int) : isF "int" (.int x) = some true := by kernel_rfl
@[simp] theorem is_ib (x : Int) : isF "bool" (.int x) = some false := by kernel_rfl
@[simp] theorem is_tt (xs : List D) : isF "tuple" (.tuple xs) = some true := by kernel_rfl
@[simp] theorem is_ss (x : Str) : isF "str" (.str x) = some true := by kernel_rfl
@[simp] theorem is_st (xs : List D) : isF "str" (.tuple xs) = some false := by kernel_rfl
@[simp] theorem is_sl (xs : List D) : isF "str" (.list xs) = some false := by kernel_rfl
@[simp] theorem is_ll (xs : List D) : isF "list" (.list xs) = some true := by kernel_rfl
@[simp] theorem is_lt (xs : List D) : isF "list" (.tuple xs) = some false := by kernel_rfl
@[simp] theorem i_F (f : Fl) : imm (eF f) = true := En.imm f
@[simp] theorem i_B (f : Br) : imm (eB f) = true := En.imm f
@[simp] theorem i_Fs (f : List Fl) : immA (f.map eF) = true := immAll f
@[simp] theorem i_Bs (f : List Br) : immA (f.map eB) = true := immAll f
@[simp] theorem i_b (b : Bool) : imm (.bool b) = true := rfl
@[simp] theorem i_i (b : Int) : imm (.int b) = true := rfl
@[simp] theorem i_s (b : Str) : imm (.str b) = true := rfl
@[simp] theorem i_n : imm .none = true := rfl
@[simp] theorem i_t (xs : List D) : imm (.tuple xs) = immA xs := by simp [imm]
@[simp] theorem i_0 : immA [] = true := rfl
@[simp] theorem i_1 (x : D) (xs : List D) : immA (x :: xs) = (imm x && immA xs) := by simp [immA]
end TS
/-! A3: the small functions over typed data -/
namespace TS
open PySem PySem.Spec PyProof.Rows L2 En EnK

def atA (b : Br) : Fl := b.2
def atZ (b : Br) : Fl := if b.1 = true then (b.2.1 + 1, b.2.2) else (b.2.1, b.2.2 + 1)
theorem fm_fields_at_eq (b : Br) : fm_fields_at [eB b] = ok (.val (.tuple [eF (atA b), eF (atZ b)])) := by
  obtain ⟨b0, x, y⟩ := b
  cases b0 <;> kernel_rfl
def nxt (b : Br) (w : Int) : Br := if b.1 = true then (true, b.2.1, b.2.2 + w) else (false, b.2.1 + w, b.2.2)
theorem fm_next_to_eq (b : Br) (w : Int) : fm_next_to [eB b, .int w] = ok (.val (eB (nxt b w))) := by
  obtain ⟨b0, x, y⟩ := b
  cases b0 <;> kernel_rfl
def cnA (b : Br) : Fl := if b.1 = true then (b.2.1 + 1, b.2.2) else (b.2.1, b.2.2 + 1)
def cnZ (b : Br) : Fl := (b.2.1 + 1, b.2.2 + 1)
theorem fm_corners_at_eq (b : Br) : fm_corners_at [eB b] = ok (.val (.tuple [eF (cnA b), eF (cnZ b)])) := by
  obtain ⟨b0, x, y⟩ := b
  cases b0 <;> kernel_rfl
def four (c : Fl) : List Br := [(false, c.1 - 1, c.2 - 1), (false, c.1, c.2 - 1), (true, c.1 - 1, c.2 - 1), (true, c.1 - 1, c.2)]
theorem fm_around_eq (c : Fl) : fm_around [eF c] = ok (.val (.tuple ((four c).map eB))) := by rfl
theorem shp_i (x : Int) : SeqAt.shaped (.int x) = true := by simp [SeqAt.shaped, PyData.canLay0, PyData.depth]
@[simp] theorem eq_i (x y : Int) : eqF (.int x) (.int y) = some (decide (x = y)) := by
  rw [eqF, if_pos ⟨shp_i x, shp_i y⟩, PyData.eqv]; by_cases h : x = y <;> simp [h]
@[simp] theorem ne_i (x y : Int) : neF (.int x) (.int y) = some (decide (x ≠ y)) := by
  rw [neF, if_pos ⟨shp_i x, shp_i y⟩, PyData.eqv]; by_cases h : x = y <;> simp [h]
@[simp] theorem is_tF (f : Fl) : isF "tuple" (eF f) = some true := is_tt _
@[simp] theorem is_tB (f : Br) : isF "tuple" (eB f) = some true := is_tt _
@[simp] theorem len_F (f : Fl) : lenF [eF f] = some (.val (.int 2)) := rfl
@[simp] theorem len_B (f : Br) : lenF [eB f] = some (.val (.int 3)) := rfl
@[simp] theorem it_F (f : Fl) : itF (eF f) = some ([f.1, f.2].map PyData.int) := rfl
theorem fm_is_within_eq (x lo hi : Int) : fm_is_within [.int x, .int lo, .int hi] = ok (.val (.bool (decide (lo ≤ x) && decide (x ≤ hi)))) := by
  simp only [fm_is_within, m_is_within, u_runD, List.map_cons, List.map_nil, List.length_cons, List.length_nil]
  by_cases h : lo ≤ x <;> simp [h]
def inn (x : Int) : Bool := decide (0 ≤ x) && decide (x ≤ 7)

theorem fm_is_field_eq (f : Fl) : fm_is_field [eF f] = ok (.val (.bool (inn f.1 && inn f.2))) := by
  simp [fm_is_field, m_is_field]
  rw [eLc_of (α := Int) PyData.int (fun x => !inn x) PyData.int [f.1, f.2] (by simp) (by simp) (by simp) (by
    intro a _
    exact ⟨_, rfl, by simp [fm_is_within_eq, inn], by simp⟩)]
  cases h1 : inn f.1 <;> cases h2 : inn f.2 <;> simp [h1, h2]
def okB (b : Br) : Bool := inn b.2.1 && inn b.2.2
theorem at_nat {α : Type} (xs : List α) (i : Nat) : atI xs (i : Int) = xs[i]? := by
  simp only [atI, ixN]
  rw [if_pos (by omega)]
  by_cases h : (i : Int) < xs.length
  · rw [if_pos h]; simp
  · rw [if_neg h]; simp; omega
@[simp] theorem at_0 {α : Type} (xs : List α) : atI xs 0 = xs[0]? := at_nat xs 0
@[simp] theorem at_1 {α : Type} (xs : List α) : atI xs 1 = xs[1]? := at_nat xs 1
@[simp] theorem at_2 {α : Type} (xs : List α) : atI xs 2 = xs[2]? := at_nat xs 2
@[simp] theorem cut_1 {α : Type} (xs : List α) : cutD xs (some 1) none = xs.tail := by
  cases xs with
  | nil => rfl
  | cons a xs =>
    simp only [cutD, HT.sIx]
    simp [List.take_of_length_le]
@[simp] theorem in_w (w : Bool) : inF (.str (wd w)) (.tuple [.str "right", .str "down"]) = some true := by cases w <;> kernel_rfl
theorem fm_is_border_eq (b : Br) : fm_is_border [eB b] = ok (.val (.bool (okB b))) := by
  obtain ⟨w, x, y⟩ := b
  have h := fm_is_field_eq (x, y)
  simp only [eF] at h
  simp [fm_is_border, m_is_border, eB, h, okB]
/-! ### rising -/
theorem zip_map {α : Type} (enc : α → D) : ∀ (xs ys : List α), zpD (xs.map enc) (ys.map enc) = (xs.zip ys).map fun p => .tuple [enc p.1, enc p.2]
  | [], _ => rfl
  | _ :: _, [] => rfl
  | x :: xs, y :: ys => by simp [zpD, zip_map enc xs ys]
theorem ge_F (a b : Fl) : geTF (eF a) (eF b) = some (leE b a) := by
  rw [leF_iff]
  simp only [eF, geTF, flat2, if_true, lexD, Option.some.injEq, beq_iff_eq]
  by_cases h1 : a.1 = b.1
  · by_cases h2 : a.2 = b.2
    · simp [h1, h2]
    · rw [if_pos h1, if_neg h2]; exact decide_eq_decide.mpr (by omega)
  · rw [if_neg h1]; exact decide_eq_decide.mpr (by omega)
theorem ge_B (a b : Br) : geTF (eB a) (eB b) = some (leE b a) := by
  rw [leB_iff]
  obtain ⟨a0, a1, a2⟩ := a; obtain ⟨b0, b1, b2⟩ := b
  simp only [eB, geTF, flat2, if_true, lexD, Option.some.injEq, beq_iff_eq, ltB]
  have hw : ∀ a0 b0 : Bool, (wd a0 = wd b0) ↔ a0 = b0 := fun a b => by
    have := wd_eq a b
    constructor
    · intro h; rw [h] at this; simp at this; exact this
    · intro h; rw [h]
  by_cases h0 : a0 = b0
  · rw [if_pos ((hw _ _).mpr h0), if_pos h0]
    by_cases h1 : a1 = b1
    · by_cases h2 : a2 = b2
      · simp [h1, h2]
      · rw [if_pos h1, if_neg h2, ← decide_not]; exact decide_eq_decide.mpr (by omega)
    · rw [if_neg h1, ← decide_not]; exact decide_eq_decide.mpr (by omega)
  · rw [if_neg (fun h => h0 ((hw _ _).mp h)), if_neg h0, wd_lt]
    cases a0 <;> cases b0 <;> simp at h0 ⊢
/-- strictly rising -/
def rise {α : Type} [DecidableEq α] [En α] : List α → Bool
  | [] => true
  | [_] => true
  | a :: b :: xs => !leE b a && rise (b :: xs)
theorem rise_zip {α : Type} [DecidableEq α] [En α] : ∀ xs : List α, ((xs.zip xs.tail).filter fun p => leE p.2 p.1).isEmpty = rise xs
  | [] => rfl
  | [_] => rfl
  | a :: b :: xs => by
    have ih := rise_zip (b :: xs)
    simp only [List.tail_cons, List.zip_cons_cons, List.filter_cons, rise] at ih ⊢
    cases leE b a
    · simpa using ih
    · simp
theorem fm_rises_F (xs : List Fl) (hl : xs.length ≤ 1000) : fm_rises [.tuple (xs.map eF)] = ok (.val (.bool (rise xs))) := by
  simp [fm_rises, m_rises]
  rw [eLc_of (α := Fl × Fl) (fun p => .tuple [eF p.1, eF p.2]) (fun p => leE p.2 p.1) (fun _ => .int 1) (xs.zip xs.tail) (by simp [← List.map_tail, zip_map]) (by simp) (by simp; omega) (by
    intro a _
    exact ⟨_, rfl, by simp [ge_F], by simp⟩)]
  simp [← rise_zip]
theorem fm_rises_B (xs : List Br) (hl : xs.length ≤ 1000) : fm_rises [.tuple (xs.map eB)] = ok (.val (.bool (rise xs))) := by
  simp [fm_rises, m_rises]
  rw [eLc_of (α := Br × Br) (fun p => .tuple [eB p.1, eB p.2]) (fun p => leE p.2 p.1) (fun _ => .int 1) (xs.zip xs.tail) (by simp [← List.map_tail, zip_map]) (by simp) (by simp; omega) (by
    intro a _
    exact ⟨_, rfl, by simp [ge_B], by simp⟩)]
  simp [← rise_zip]
end TS
/-! A4: borders, what hangs, tears -/
namespace TS
open PySem PySem.Spec PyProof.Rows L2 En EnK

def innW (w : Bool) (pre fs : List Fl) : List Br := (pre.filter fun f => decide (atZ (w, f) ∈ fs)).map fun f => (w, f)
def innU (fs : List Fl) : List Br := innW false fs fs ++ innW true fs fs
def inner (fs : List Fl) : List Br := sE (innU fs)
theorem innW_len (w : Bool) (pre fs : List Fl) : (innW w pre fs).length ≤ pre.length := by
  simp only [innW, List.length_map]; exact List.length_filter_le _ _
@[simp] theorem in_dF (xs : List Fl) (a : Fl) : inF (eF a) (.dict (kvT xs)) = some (decide (a ∈ xs)) := (in_kvT xs a).trans (by congr)
@[simp] theorem in_dB (xs : List Br) (a : Br) : inF (eB a) (.dict (kvT xs)) = some (decide (a ∈ xs)) := (in_kvT xs a).trans (by congr)
@[simp] theorem nin_dF (xs : List Fl) (a : Fl) : notInF (eF a) (.dict (kvT xs)) = some (decide (a ∉ xs)) := (nin_kvT xs a).trans (by congr)
@[simp] theorem nin_dB (xs : List Br) (a : Br) : notInF (eB a) (.dict (kvT xs)) = some (decide (a ∉ xs)) := (nin_kvT xs a).trans (by congr)
@[simp] theorem in_tF (xs : List Fl) (a : Fl) : inF (eF a) (.tuple (xs.map eF)) = some (decide (a ∈ xs)) := (in_tup xs a).trans (by congr)
@[simp] theorem in_tB (xs : List Br) (a : Br) : inF (eB a) (.tuple (xs.map eB)) = some (decide (a ∈ xs)) := (in_tup xs a).trans (by congr)
@[simp] theorem in_lF (xs : List Fl) (a : Fl) : inF (eF a) (.list (xs.map eF)) = some (decide (a ∈ xs)) := (in_lst xs a).trans (by congr)
@[simp] theorem in_lB (xs : List Br) (a : Br) : inF (eB a) (.list (xs.map eB)) = some (decide (a ∈ xs)) := (in_lst xs a).trans (by congr)
@[simp] theorem nin_tF (xs : List Fl) (a : Fl) : notInF (eF a) (.tuple (xs.map eF)) = some (decide (a ∉ xs)) := (nin_tup xs a).trans (by congr)
@[simp] theorem nin_tB (xs : List Br) (a : Br) : notInF (eB a) (.tuple (xs.map eB)) = some (decide (a ∉ xs)) := (nin_tup xs a).trans (by congr)
@[simp] theorem nin_lF (xs : List Fl) (a : Fl) : notInF (eF a) (.list (xs.map eF)) = some (decide (a ∉ xs)) := (nin_lst xs a).trans (by congr)
@[simp] theorem nin_lB (xs : List Br) (a : Br) : notInF (eB a) (.list (xs.map eB)) = some (decide (a ∉ xs)) := (nin_lst xs a).trans (by congr)
theorem fm_fields_at_t (w : Bool) (f : Fl) : fm_fields_at [.tuple [.str (wd w), .int f.1, .int f.2]] = ok (.val (.tuple [eF f, eF (atZ (w, f))])) := fm_fields_at_eq (w, f)
theorem flt_t {α : Type} (xs : List α) : List.filter (fun _ => true) xs = xs := List.filter_eq_self.mpr fun _ _ => rfl
theorem innW_snoc (w : Bool) (pre fs : List Fl) (a : Fl) : innW w (pre ++ [a]) fs = innW w pre fs ++ if atZ (w, a) ∈ fs then [(w, a)] else [] := by
  simp only [innW, List.filter_append, List.map_append]
  by_cases h : atZ (w, a) ∈ fs <;> simp [h]
theorem fm_borders_of_g (d : D) (fs : List Fl) (hd : itF d = some (fs.map eF)) (hl : fs.length ≤ 400) : fm_borders_of [d] = ok (.ownL ((inner fs).map eB)) := by
  have hdc : ∀ ρ, ρ = [some (.val d), none, none, none, none, none, none] → eDc (.one 2) [2] (iA (vVar 0)) bYes (vVar 2) (oC (.bool true)) ρ = ok (.ownD (kvT (addT [] fs))) := by
    rintro ρ rfl
    have h := eDc_of (α := Fl) (β := Fl) eF (fun _ => true) id (t := .one 2) (vs := [2]) (it := iA (vVar 0)) (c := bYes) (km := vVar 2) (vm := oC (.bool true)) (ρ := [some (.val d), none, none, none, none, none, none]) fs (by simp [hd]) (by simp) (by omega) (fun a _ => ⟨_, rfl, by simp, by simp; rfl⟩)
    simpa [flt_t] using h
  have key : ∀ (w : Bool) (acc : List Br) (b5 b6 : Option RV), acc.length ≤ 400 → ∃ a5 a6, mFor (.tup [5, 6]) mb_borders_of_1 (fs.map eF) [some (.val d), some (.ownD (kvT (addT [] fs))), none, some (.ownL (acc.map eB)), some (.val (.str (wd w))), b5, b6] = some (.nx [some (.val d), some (.ownD (kvT (addT [] fs))), none, some (.ownL ((acc ++ innW w fs fs).map eB)), some (.val (.str (wd w))), a5, a6]) := by
    intro w acc b5 b6 ha
    obtain ⟨ρ', h1, a5, a6, rfl⟩ := mFor_of (α := Fl) eF (t := .tup [5, 6]) (m := mb_borders_of_1) (fun pre ρ => ∃ a5 a6, ρ = [some (.val d), some (.ownD (kvT (addT [] fs))), none, some (.ownL ((acc ++ innW w pre fs).map eB)), some (.val (.str (wd w))), a5, a6]) fs (by
      rintro pre a post ρ e ⟨a5, a6, rfl⟩
      refine ⟨_, [some (.val d), some (.ownD (kvT (addT [] fs))), none, some (.ownL ((acc ++ innW w (pre ++ [a]) fs).map eB)), some (.val (.str (wd w))), some (.val (.int a.1)), some (.val (.int a.2))], rfl, ?_, _, _, rfl⟩
      have hlen : pre.length ≤ fs.length := by rw [← e]; simp
      have hl2 := innW_len w pre fs
      have hmem : (atZ (w, a) ∈ addT [] fs) = (atZ (w, a) ∈ fs) := by simp [addT_mem]
      simp [mb_borders_of_1, fm_fields_at_t, hmem, innW_snoc]
      by_cases hm : atZ (w, a) ∈ fs
      · simp [hm, eB]; omega
      · simp [hm]) [some (.val d), some (.ownD (kvT (addT [] fs))), none, some (.ownL (acc.map eB)), some (.val (.str (wd w))), b5, b6] ⟨b5, b6, by simp [innW]⟩
    exact ⟨a5, a6, h1⟩
  have h2 : ∃ a4 a5 a6, mFor (.one 4) mb_borders_of_2 [.str "down", .str "right"] [some (.val d), some (.ownD (kvT (addT [] fs))), none, some (.ownL []), none, none, none] = some (.nx [some (.val d), some (.ownD (kvT (addT [] fs))), none, some (.ownL ((innU fs).map eB)), a4, a5, a6]) := by
    obtain ⟨a5, a6, h1⟩ := key false [] none none (by simp)
    obtain ⟨c5, c6, h2⟩ := key true (innW false fs fs) a5 a6 (Nat.le_trans (innW_len _ _ _) hl)
    refine ⟨some (.val (.str (wd true))), c5, c6, ?_⟩
    simp only [List.map_nil, List.nil_append] at h1
    simp [mFor, mb_borders_of_2, hd]
    have e1 : wd false = Str.ofString "down" := rfl
    have e2 : wd true = Str.ofString "right" := rfl
    rw [e1] at h1
    rw [e2] at h2
    simp [h1, h2, hd, e2, innU]
  obtain ⟨a4, a5, a6, h2⟩ := h2
  have hu : (innU fs).length ≤ 1000000 := by
    have := innW_len false fs fs
    have := innW_len true fs fs
    simp only [innU, List.length_append]; omega
  have hs := sorted_l (innU fs) hu
  simp only [fm_borders_of, m_borders_of, u_runD, List.map_cons, List.map_nil, List.length_cons, List.length_nil, List.replicate, List.cons_append, List.nil_append, Nat.reduceAdd, Nat.reduceSub, u_sSeq]
  rw [u_sSet, u_sb, hdc _ rfl]
  have hs' : sortedF [.list ((innU fs).map eB)] = some (.ownL ((inner fs).map eB)) := hs
  simp [h2, hs']
end TS
/-! A5: what hangs, whole corners, runs, tears -/
namespace TS
open PySem PySem.Spec PyProof.Rows L2 En EnK

theorem innW_nodup (w : Bool) (pre fs : List Fl) (h : pre.Nodup) : (innW w pre fs).Nodup := by
  unfold innW
  refine List.Pairwise.map _ ?_ (List.Pairwise.filter _ h)
  intro a b hab e
  exact hab (Prod.mk.inj e).2
theorem innW_mem (w : Bool) (pre fs : List Fl) (b : Br) : b ∈ innW w pre fs ↔ b.1 = w ∧ b.2 ∈ pre ∧ atZ b ∈ fs := by
  obtain ⟨b0, b1⟩ := b
  simp only [innW, List.mem_map, List.mem_filter, decide_eq_true_eq, Prod.mk.injEq]
  constructor
  · rintro ⟨f, ⟨h1, h2⟩, rfl, rfl⟩; exact ⟨rfl, h1, h2⟩
  · rintro ⟨rfl, h1, h2⟩; exact ⟨b1, ⟨h1, h2⟩, rfl, rfl⟩
theorem innU_nodup (fs : List Fl) (h : fs.Nodup) : (innU fs).Nodup := by
  unfold innU
  rw [List.nodup_append]
  refine ⟨innW_nodup _ _ _ h, innW_nodup _ _ _ h, fun a ha b hb e => ?_⟩
  have h1 := ((innW_mem _ _ _ _).mp ha).1
  have h2 := ((innW_mem _ _ _ _).mp hb).1
  rw [e, h2] at h1
  cases h1
theorem inner_mem (fs : List Fl) (b : Br) : b ∈ inner fs ↔ atA b ∈ fs ∧ atZ b ∈ fs := by
  rw [inner, sE_mem, innU, List.mem_append, innW_mem, innW_mem]
  cases h : b.1 <;> simp [atA]
theorem inner_nodup (fs : List Fl) (h : fs.Nodup) : (inner fs).Nodup := (sE_perm _).nodup_iff.mpr (innU_nodup fs h)
theorem inner_len (fs : List Fl) : (inner fs).length ≤ 2 * fs.length := by
  have h1 := innW_len false fs fs
  have h2 := innW_len true fs fs
  rw [inner, sE_len, innU, List.length_append]; omega
def eFs (fs : List Fl) : D := .tuple (fs.map eF)
def eBs (bs : List Br) : D := .tuple (bs.map eB)
/-- a sheet as data -/
def eS (fs : List Fl) (ps : List Br) : D := .tuple [eFs fs, eBs ps]
theorem fm_borders_of_t (fs : List Fl) (hl : fs.length ≤ 400) : fm_borders_of [eFs fs] = ok (.ownL ((inner fs).map eB)) := fm_borders_of_g _ fs rfl hl
@[simp] theorem i_eFs (fs : List Fl) : imm (eFs fs) = true := by simp [eFs]
@[simp] theorem i_eBs (fs : List Br) : imm (eBs fs) = true := by simp [eBs]
@[simp] theorem i_eS (fs : List Fl) (ps : List Br) : imm (eS fs ps) = true := by simp [eS]
def hang (fs : List Fl) (tn : List Br) : List Br := (inner fs).filter fun b => decide (b ∉ tn)
theorem hang_nodup (fs : List Fl) (tn : List Br) (h : fs.Nodup) : (hang fs tn).Nodup := List.Pairwise.filter _ (inner_nodup fs h)
theorem fm_hanging_of_eq (fs : List Fl) (ps tn : List Br) (hl : fs.length ≤ 400) (ht : tn.length ≤ 900) (hn : fs.Nodup) : fm_hanging_of [eS fs ps, eBs tn] = ok (.ownD (kvT (hang fs tn))) := by
  simp only [fm_hanging_of, m_hanging_of, u_runD, List.map_cons, List.map_nil, List.length_cons, List.length_nil, List.replicate, List.cons_append, List.nil_append, Nat.reduceAdd, Nat.reduceSub, u_sSeq]
  rw [u_sSet, u_sb, eDc_of (α := Br) (β := Br) eB (fun _ => true) id tn (by simp [eBs]) (by simp) (by omega) (fun a _ => ⟨_, rfl, by simp, by simp; rfl⟩)]
  simp
  have hle := inner_len fs
  rw [eDc_of (α := Br) (β := Br) eB (fun b => decide (b ∉ tn)) id (inner fs) (by simp [eS, fm_borders_of_t, hl]) (by simp) (by omega) (fun a _ => ⟨_, rfl, by simp [addT_mem, flt_t], fun _ => ⟨by simp; rfl, by simp⟩⟩)]
  have e := addT_new (hang fs tn) [] (by rw [List.nil_append]; exact hang_nodup fs tn hn)
  simp only [List.map_id]
  rw [show (inner fs).filter (fun b => decide (b ∉ tn)) = hang fs tn from rfl, e]
  simp
theorem fm_pricks_of_eq (fs : List Fl) (ps : List Br) (hp : ps.length ≤ 900) (hn : ps.Nodup) : fm_pricks_of [eS fs ps] = ok (.ownD (kvT ps)) := by
  simp only [fm_pricks_of, m_pricks_of, u_runD, List.map_cons, List.map_nil, List.length_cons, List.length_nil, List.replicate, List.cons_append, List.nil_append, Nat.reduceAdd, Nat.reduceSub]
  rw [u_sRet, u_sb, eDc_of (α := Br) (β := Br) eB (fun _ => true) id ps (by simp [eS, eBs]) (by simp) (by omega) (fun a _ => ⟨_, rfl, by simp, by simp; rfl⟩)]
  have e := addT_new ps [] (by simpa using hn)
  simp [flt_t, e]
def whole4 (h : List Br) (c : Fl) : Bool := (four c).all fun b => decide (b ∈ h)
theorem fm_is_whole_corner_g (d : D) (h : List Br) (c : Fl) (hd : ∀ b : Br, notInF (eB b) d = some (decide (b ∉ h))) : fm_is_whole_corner [d, eF c] = ok (.val (.bool (whole4 h c))) := by
  simp [fm_is_whole_corner, m_is_whole_corner]
  rw [eLc_of (α := Br) eB (fun b => decide (b ∉ h)) eB (four c) (by simp [fm_around_eq]) (by simp) (by simp [four]) (fun a _ => ⟨_, rfl, by simp [hd], by simp⟩)]
  have e : ∀ xs : List Br, (xs.filter fun b => !decide (b ∈ h)).isEmpty = xs.all fun b => decide (b ∈ h) := fun xs => by
    induction xs with
    | nil => rfl
    | cons x xs ih => by_cases hx : x ∈ h <;> simp [hx, ih]
  simp [whole4, e]
end TS
/-! A6: runs and tears -/
namespace TS
open PySem PySem.Spec PyProof.Rows L2 En EnK

def cor (b : Br) (w : Int) : Fl := if w > 0 then cnZ b else cnA b
/-- a border's place along its line -/
def along (b : Br) : Int := if b.1 = true then b.2.2 else b.2.1
def mu (w : Int) (b : Br) : Nat := if w > 0 then (8 - along b).toNat else (along b + 1).toNat
def runN (h : List Br) (w : Int) : Nat → Br → List Br
  | 0, _ => []
  | n + 1, b => if whole4 h (cor b w) = true then nxt b w :: runN h w n (nxt b w) else []
def run (h : List Br) (w : Int) (b : Br) : List Br := runN h w (mu w b) b
/-- all within the bounds -/
def BdB (h : List Br) : Prop := ∀ b ∈ h, 0 ≤ along b ∧ along b ≤ 7
theorem whole4_iff (h : List Br) (c : Fl) : whole4 h c = true ↔ ∀ b ∈ four c, b ∈ h := by simp [whole4]
theorem whole_nxt {h : List Br} {w : Int} {b : Br} (hw : w = 1 ∨ w = -1) (q : whole4 h (cor b w) = true) : nxt b w ∈ h := by
  rw [whole4_iff] at q
  refine q _ ?_
  obtain ⟨b0, x, y⟩ := b
  have e1 : ∀ z : Int, z + 1 - 1 = z := fun z => by omega
  have e2 : ∀ z : Int, z + -1 = z - 1 := fun z => by omega
  rcases hw with rfl | rfl <;> cases b0 <;> simp [cor, four, nxt, cnA, cnZ, e1, e2]
theorem mu_nxt {h : List Br} {w : Int} {b : Br} (hb : BdB h) (hw : w = 1 ∨ w = -1) (q : whole4 h (cor b w) = true) : mu w b = mu w (nxt b w) + 1 := by
  have := hb _ (whole_nxt hw q)
  obtain ⟨b0, x, y⟩ := b
  rcases hw with rfl | rfl <;> cases b0 <;> simp [mu, along, nxt] at this ⊢ <;> omega
theorem run_eq {h : List Br} {w : Int} (hb : BdB h) (hw : w = 1 ∨ w = -1) (b : Br) : run h w b = if whole4 h (cor b w) = true then nxt b w :: run h w (nxt b w) else [] := by
  by_cases q : whole4 h (cor b w) = true
  · rw [if_pos q, run, mu_nxt hb hw q, runN, if_pos q]; rfl
  · rw [if_neg q, run]
    cases mu w b with
    | zero => rfl
    | succ n => rw [runN, if_neg q]
theorem runN_len (h : List Br) (w : Int) : ∀ n b, (runN h w n b).length ≤ n
  | 0, _ => by simp [runN]
  | n + 1, b => by
    rw [runN]
    split
    · simpa using runN_len h w n _
    · simp
theorem run_len {h : List Br} {w : Int} (hb : BdB h) (hw : w = 1 ∨ w = -1) (b : Br) : (run h w b).length ≤ 9 := by
  rw [run_eq hb hw]
  split
  · rename_i q
    have := hb _ (whole_nxt hw q)
    have h2 := runN_len h w (mu w (nxt b w)) (nxt b w)
    have h3 : mu w (nxt b w) ≤ 8 := by
      rcases hw with rfl | rfl <;> simp [mu] <;> omega
    simp only [List.length_cons, run]; omega
  · simp
theorem nxt_imm (b : Br) (w : Int) : immRV (.val (eB (nxt b w))) = true := by simp
theorem fm_run_of_eq (d : D) (h : List Br) (b : Br) (w : Int) (hd : ∀ b : Br, notInF (eB b) d = some (decide (b ∉ h))) (hb : BdB h) (hw : w = 1 ∨ w = -1) : fm_run_of [d, eB b, .int w] = ok (.ownL ((run h w b).map eB)) := by
  have hc : ∀ (x : Br) (a3 : Option RV), bT (oE (eCall 2 fm_is_whole_corner (lCons (oVar 0) (lCons (o2 idxF (oE (eCall 1 fm_corners_at (lCons (oVar 4) lNil))) (mIf (b2 (ltF pGt) (oVar 2) (oC (.int 0))) (oC (.int 1)) (oC (.int 0)))) lNil)))) [some (.val d), some (.val (eB b)), some (.val (.int w)), a3, some (.val (eB x))] = ok (whole4 h (cor x w)) := by
    intro x a3
    have e := fm_is_whole_corner_g d h (cor x w) hd
    rcases hw with rfl | rfl
    · simp only [cor] at e ⊢; simp at e; simp [fm_corners_at_eq, e]
    · simp only [cor] at e ⊢; simp at e; simp [fm_corners_at_eq, e]
  have hr := mWhile_of (c := bT (oE (eCall 2 fm_is_whole_corner (lCons (oVar 0) (lCons (o2 idxF (oE (eCall 1 fm_corners_at (lCons (oVar 4) lNil))) (mIf (b2 (ltF pGt) (oVar 2) (oC (.int 0))) (oC (.int 1)) (oC (.int 0)))) lNil))))) (b := mb_run_of_1)
    (fun (s : Br × List Br) ρ => ρ = [some (.val d), some (.val (eB b)), some (.val (.int w)), some (.ownL (s.2.map eB)), some (.val (eB s.1))] ∧ s.2 ++ run h w s.1 = run h w b) (fun s ρ => run h w s.1 = []) (fun s => (run h w s.1).length) (by
      rintro ⟨x, acc⟩ ρ ⟨rfl, e⟩
      have hcx : _ := hc x (some (.ownL (acc.map eB)))
      rw [run_eq hb hw x] at e ⊢
      by_cases q : whole4 h (cor x w) = true
      · right
        rw [q] at hcx
        refine ⟨hcx, ⟨nxt x w, acc ++ [nxt x w]⟩, _, ?_, ⟨rfl, ?_⟩, ?_⟩
        · have hl : acc.length < 1000 := by
            have h1 := run_len hb hw b
            rw [← e, List.length_append] at h1
            dsimp only at h1
            omega
          simp [mb_run_of_1, fm_next_to_eq, hl]
        · rw [if_pos q] at e; simpa using e
        · rw [if_pos q]; simp
      · left
        have q' : whole4 h (cor x w) = false := by simpa using q
        rw [q'] at hcx
        exact ⟨hcx, by rw [if_neg q]⟩) 1000 (b, []) [some (.val d), some (.val (eB b)), some (.val (.int w)), some (.ownL []), some (.val (eB b))] ⟨rfl, rfl⟩ (by have := run_len hb hw b; simp only; omega)
  obtain ⟨s', ρ', h1, ⟨rfl, h3⟩, h2⟩ := hr
  simp only [fm_run_of, m_run_of, u_runD, List.map_cons, List.map_nil, List.length_cons, List.length_nil, List.replicate, List.cons_append, List.nil_append, Nat.reduceAdd, Nat.reduceSub]
  rw [h2, List.append_nil] at h3
  simp [h1, h3]
end TS
/-! A7: the tear through a border -/
namespace TS
open PySem PySem.Spec PyProof.Rows L2 En EnK

def line (h : List Br) (b : Br) : List Br := sE (run h (-1) b ++ [b] ++ run h 1 b)
def tear (h ps : List Br) (b : Br) : Option (List Br) := if b ∈ h ∧ ∀ x ∈ line h b, x ∈ ps then some (line h b) else none
def oT : Option (List Br) → D
  | none => .none
  | some t => eBs t
theorem line_len {h : List Br} (hb : BdB h) (b : Br) : (line h b).length ≤ 19 := by
  have h1 := run_len hb (w := -1) (.inr rfl) b
  have h2 := run_len hb (w := 1) (.inl rfl) b
  simp only [line, sE_len, List.length_append, List.length_cons, List.length_nil]; omega
@[simp] theorem add_BB (xs ys : List Br) (h : xs.length + ys.length ≤ 1000000) : addF (.list (xs.map eB)) (.list (ys.map eB)) = some (.ownL ((xs ++ ys).map eB)) := by
  simp [addF, h]
@[simp] theorem sort_B (xs : List Br) (h : xs.length ≤ 1000000) : sortedF [.list (xs.map eB)] = some (.ownL ((sE xs).map eB)) := sorted_l xs h
@[simp] theorem sort_F (xs : List Fl) (h : xs.length ≤ 1000000) : sortedF [.list (xs.map eF)] = some (.ownL ((sE xs).map eF)) := sorted_l xs h
@[simp] theorem tup_B (xs : List Br) (h : xs.length ≤ 1000000) : tupleF [.list (xs.map eB)] = some (.val (eBs xs)) := tuple_l xs h
@[simp] theorem tup_F (xs : List Fl) (h : xs.length ≤ 1000000) : tupleF [.list (xs.map eF)] = some (.val (eFs xs)) := tuple_l xs h
theorem fm_tear_at_g (d e : D) (h ps : List Br) (b : Br) (hd : ∀ b : Br, notInF (eB b) d = some (decide (b ∉ h))) (he : ∀ b : Br, notInF (eB b) e = some (decide (b ∉ ps))) (hb : BdB h) : fm_tear_at [d, e, eB b] = ok (.val (oT (tear h ps b))) := by
  have r1 := fm_run_of_eq d h b (-1) hd hb (.inr rfl)
  have r2 := fm_run_of_eq d h b 1 hd hb (.inl rfl)
  have l1 := run_len hb (w := -1) (.inr rfl) b
  have l2 := run_len hb (w := 1) (.inl rfl) b
  have a1 : addF (.list ((run h (-1) b).map eB)) (.list [eB b]) = some (.ownL ((run h (-1) b ++ [b]).map eB)) := add_BB _ [b] (by simp; omega)
  have a2 := add_BB (run h (-1) b ++ [b]) (run h 1 b) (by simp; omega)
  have a3 := sort_B (run h (-1) b ++ [b] ++ run h 1 b) (by simp; omega)
  have a4 := tup_B (line h b) (by have := line_len hb b; omega)
  simp only [fm_tear_at, m_tear_at, u_runD, List.map_cons, List.map_nil, List.length_cons, List.length_nil, List.replicate, List.cons_append, List.nil_append, Nat.reduceAdd, Nat.reduceSub]
  by_cases hm : b ∈ h
  · have hgo : sSet 3 (eL sortedF (lCons (oE (e2 addF (oE (e2 addF (oE (eCall 3 fm_run_of (lCons (oVar 0) (lCons (oVar 2) (lCons (vNeg (oC (.int 1))) (lNil)))))) (oE (eLst (lCons (vVar 2) (lNil)))))) (oE (eCall 3 fm_run_of (lCons (oVar 0) (lCons (oVar 2) (lCons (oC (.int 1)) (lNil)))))))) (lNil))) [some (.val d), some (.val e), some (.val (eB b)), none, none] = some (.nx [some (.val d), some (.val e), some (.val (eB b)), some (.ownL ((line h b).map eB)), none]) := by
      simp only [u_sSet, u_sb, u_eL, u_lCons, u_oE, u_e2, u_eCall, u_oVar, u_vVar, u_vNeg, u_oC, u_lNil, u_eLst, u_negF, u_dv, u_dl, eb_ok, List.getElem?_cons_zero, List.getElem?_cons_succ, List.length_cons, List.length_nil, Nat.reduceAdd, if_true, r1, r2, u_il, i_Bs, lift_some, a1, a2, a3, u_sb_ok, Nat.reduceLeDiff]
      rfl
    simp [hd, hm, hgo, -u_sSet]
    rw [eLc_of (α := Br) eB (fun x => decide (x ∉ ps)) eB (line h b) (by simp) (by simp) (by have := line_len hb b; omega) (fun a _ => ⟨_, rfl, by simp [he], by simp⟩)]
    simp [a4]
    have ee : ∀ xs : List Br, (xs.filter fun b => !decide (b ∈ ps)) = [] ↔ ∀ x ∈ xs, x ∈ ps := fun xs => by simp [List.filter_eq_nil_iff]
    by_cases q : ∀ x ∈ line h b, x ∈ ps
    · have q' := (ee (line h b)).mpr q
      rw [q']
      rw [show tear h ps b = some (line h b) from if_pos ⟨hm, q⟩]
      simp [a4, oT]
    · have q' : ¬ (line h b).filter (fun b => !decide (b ∈ ps)) = [] := fun z => q ((ee _).mp z)
      rw [show tear h ps b = none from if_neg fun z => q z.2]
      simp [q', oT]
  · rw [show tear h ps b = none from if_neg fun z => hm z.1]
    simp [hd, hm, oT]
end TS
/-! A8: the laws' own borders, corners, tears -/
namespace TS
open PySem PySem.Spec PyProof.Rows L2 En EnK

def both (fs : List Fl) (f : Fl) : List Br := (if atZ (false, f) ∈ fs then [(false, f)] else []) ++ (if atZ (true, f) ∈ fs then [(true, f)] else [])
theorem both_mem (fs : List Fl) (f : Fl) (b : Br) : b ∈ both fs f ↔ b.2 = f ∧ atZ b ∈ fs := by
  obtain ⟨b0, b1⟩ := b
  simp only [both, List.mem_append]
  by_cases h1 : atZ (false, f) ∈ fs <;> by_cases h2 : atZ (true, f) ∈ fs <;> cases b0 <;> simp [h1, h2] <;> (try (constructor)) <;> (try (rintro rfl)) <;> simp_all
theorem both_len (fs : List Fl) (f : Fl) : (both fs f).length ≤ 2 := by
  simp only [both]; split <;> split <;> simp
theorem both_nodup (fs : List Fl) (f : Fl) : (both fs f).Nodup := by
  simp only [both]; split <;> split <;> simp
def innL (pre fs : List Fl) : List Br := pre.flatMap (both fs)
theorem innL_len (fs : List Fl) : ∀ pre, (innL pre fs).length ≤ 2 * pre.length
  | [] => by simp [innL]
  | f :: pre => by
    have h1 := both_len fs f
    have h2 := innL_len fs pre
    simp only [innL, List.flatMap_cons, List.length_append, List.length_cons] at h2 ⊢; omega
theorem innL_mem (pre fs : List Fl) (b : Br) : b ∈ innL pre fs ↔ b.2 ∈ pre ∧ atZ b ∈ fs := by
  simp only [innL, List.mem_flatMap, both_mem]
  constructor
  · rintro ⟨f, h1, rfl, h2⟩; exact ⟨h1, h2⟩
  · rintro ⟨h1, h2⟩; exact ⟨_, h1, rfl, h2⟩
theorem innL_nodup (fs : List Fl) : ∀ pre : List Fl, pre.Nodup → (innL pre fs).Nodup
  | [], _ => by simp [innL]
  | f :: pre, h => by
    rw [List.nodup_cons] at h
    simp only [innL, List.flatMap_cons]
    rw [List.nodup_append]
    refine ⟨both_nodup fs f, innL_nodup fs pre h.2, fun a ha b hb e => ?_⟩
    have h1 := ((both_mem _ _ _).mp ha).1
    have h2 := ((innL_mem _ _ _).mp hb).1
    rw [← e, h1] at h2
    exact h.1 h2
theorem innL_inner (fs : List Fl) (h : fs.Nodup) : sE (innL fs fs) = inner fs := by
  refine sE_congr (perm_of (innL_nodup fs fs h) (innU_nodup fs h) fun b => ?_)
  have h1 := inner_mem fs b
  rw [inner, sE_mem] at h1
  rw [innL_mem, h1]; rfl
theorem fm_law_inner_eq (fs : List Fl) (hl : fs.length ≤ 400) (hn : fs.Nodup) : fm_law_inner [eFs fs] = ok (.ownL ((inner fs).map eB)) := by
  obtain ⟨ρ', h1, a5, a6, rfl⟩ := mFor_of (α := Fl) eF (t := .tup [2, 3]) (m := mb_law_inner_1) (fun pre ρ => ∃ a5 a6, ρ = [some (.val (eFs fs)), some (.ownL ((innL pre fs).map eB)), a5, a6]) fs (by
    rintro pre a post ρ e ⟨a5, a6, rfl⟩
    refine ⟨_, [some (.val (eFs fs)), some (.ownL ((innL (pre ++ [a]) fs).map eB)), some (.val (.int a.1)), some (.val (.int a.2))], rfl, ?_, _, _, rfl⟩
    have hlen : pre.length ≤ fs.length := by rw [← e]; simp
    have hl2 := innL_len fs pre
    have i1 : inF (.tuple [.int a.1, .int (a.2 + 1)]) (eFs fs) = some (decide (atZ (false, a) ∈ fs)) := in_tF fs (a.1, a.2 + 1)
    have i2 : inF (.tuple [.int (a.1 + 1), .int a.2]) (eFs fs) = some (decide (atZ (true, a) ∈ fs)) := in_tF fs (a.1 + 1, a.2)
    have d1 : ∀ x y : Int, addF (.int x) (.int y) = some (.val (.int (x + y))) := fun _ _ => rfl
    have w1 : wd false = Str.ofString "down" := rfl
    have w2 : wd true = Str.ofString "right" := rfl
    have sn : innL (pre ++ [a]) fs = innL pre fs ++ both fs a := by simp [innL]
    rw [sn]
    generalize innL pre fs = acc at hl2 ⊢
    simp only [both]
    by_cases q1 : atZ (false, a) ∈ fs <;> by_cases q2 : atZ (true, a) ∈ fs
    all_goals simp [mb_law_inner_1, d1, i1, i2, q1, q2, eB, w1, w2, -List.map_append]
    all_goals (try rw [if_pos (by omega)])
    all_goals simp [d1, i1, i2, q1, q2, eB, w1, w2]
    all_goals (try omega)) [some (.val (eFs fs)), some (.ownL []), none, none] ⟨none, none, rfl⟩
  have hs := sort_B (innL fs fs) (by have := innL_len fs fs; omega)
  rw [innL_inner fs hn] at hs
  have hi : itF (eFs fs) = some (fs.map eF) := rfl
  simp only [fm_law_inner, m_law_inner, u_runD, List.map_cons, List.map_nil, List.length_cons, List.length_nil, List.replicate, List.cons_append, List.nil_append, Nat.reduceAdd, Nat.reduceSub]
  simp [hi, h1, hs]
theorem fm_law_full_eq (d : D) (h : List Br) (x y : Int) (hd : ∀ b : Br, notInF (eB b) d = some (decide (b ∉ h))) : fm_law_full [d, .int x, .int y] = ok (.val (.bool (whole4 h (x + 1, y + 1)))) := by
  have d1 : ∀ x y : Int, addF (.int x) (.int y) = some (.val (.int (x + y))) := fun _ _ => rfl
  have w1 : wd false = Str.ofString "down" := rfl
  have w2 : wd true = Str.ofString "right" := rfl
  simp [fm_law_full, m_law_full, d1]
  rw [eLc_of (α := Br) eB (fun b => decide (b ∉ h)) eB [(true, x, y), (true, x, y + 1), (false, x, y), (false, x + 1, y)] (by simp [eB, w1, w2]) (by simp) (by simp) (fun a _ => ⟨_, rfl, by simp [hd], by simp⟩)]
  have e := eq_lst (α := Br) ([(true, x, y), (true, x, y + 1), (false, x, y), (false, x + 1, y)].filter fun b => decide (b ∉ h)) []
  have e' : eqF (.list (([(true, x, y), (true, x, y + 1), (false, x, y), (false, x + 1, y)].filter fun b => decide (b ∉ h)).map eB)) (.list []) = some (whole4 h (x + 1, y + 1)) := by
    refine e.trans (congrArg some ?_)
    rw [Bool.eq_iff_iff, whole4_iff, decide_eq_true_eq, List.filter_eq_nil_iff]
    simp [four]
    constructor
    · rintro ⟨h1, h2, h3, h4⟩; exact ⟨h3, h4, h1, h2⟩
    · rintro ⟨h1, h2, h3, h4⟩; exact ⟨h3, h4, h1, h2⟩
  simp only [u_dl, eb_ok, e', lift_some]
  simp [e']
end TS
/-! A9: the laws' own tear -/
namespace TS
open PySem PySem.Spec PyProof.Rows L2 En EnK

@[simp] theorem eq_w (w : Bool) : eqF (.str (wd w)) (.str "right") = some w := by cases w <;> kernel_rfl
@[simp] theorem add_i (x y : Int) : addF (.int x) (.int y) = some (.val (.int (x + y))) := rfl
/-- the upper left field of the corner that a border ends at -/
def ulc (b : Br) (w : Int) : Fl := if w > 0 then b.2 else if b.1 = true then (b.2.1, b.2.2 - 1) else (b.2.1 - 1, b.2.2)
theorem cor_ulc (b : Br) (w : Int) : cor b w = ((ulc b w).1 + 1, (ulc b w).2 + 1) := by
  obtain ⟨b0, x, y⟩ := b
  by_cases hw : w > 0 <;> cases b0 <;> simp [cor, ulc, cnA, cnZ, hw] <;> omega
abbrev rgT (s d : D) (b : Br) (acc : List Br) (w : Int) (c : Br) (mo : Bool) (a9 a10 : Option RV) : Regs :=
  [some (.val s), some (.val d), some (.val (eB b)), some (.ownL (acc.map eB)), some (.val (.int w)), some (.val (.str (wd c.1))), some (.val (.int c.2.1)), some (.val (.int c.2.2)), some (.val (.bool mo)), a9, a10]
theorem lt_step {s d : D} {h : List Br} {b c : Br} {acc : List Br} {w : Int} {a9 a10 : Option RV} (hd : ∀ b : Br, notInF (eB b) d = some (decide (b ∉ h))) (hw : w = 1 ∨ w = -1) (hl : acc.length < 1000) :
    mb_law_tear_1 (rgT s d b acc w c true a9 a10) = some (.nx (if whole4 h (cor c w) = true then rgT s d b (acc ++ [nxt c w]) w (nxt c w) true (some (.val (eF (ulc c w)))) a10 else rgT s d b acc w c false (some (.val (eF (ulc c w)))) a10)) := by
  have hf := fm_law_full_eq d h (ulc c w).1 (ulc c w).2 hd
  rw [← cor_ulc] at hf
  obtain ⟨c0, x, y⟩ := c
  rcases hw with rfl | rfl
  all_goals (generalize hq : whole4 h _ = q at hf ⊢)
  all_goals cases c0
  all_goals cases q
  all_goals simp [ulc] at hf
  all_goals simp [mb_law_tear_1, hf, hl, nxt, eB, eF, ulc, rgT]
theorem lt_loop {s d : D} {h : List Br} {b : Br} {acc : List Br} {w : Int} {a9 a10 : Option RV} (hd : ∀ b : Br, notInF (eB b) d = some (decide (b ∉ h))) (hb : BdB h) (hw : w = 1 ∨ w = -1) (hl : acc.length ≤ 100) :
    ∃ c a9', mWhile (bT (oVar 8)) mb_law_tear_1 1000 (rgT s d b acc w b true a9 a10) = some (.nx (rgT s d b (acc ++ run h w b) w c false a9' a10)) := by
  have rl := run_len hb hw b
  obtain ⟨⟨c, mo, ac⟩, ρ', h1, ⟨a9', rfl, h3⟩, h2⟩ := mWhile_of (c := bT (oVar 8)) (b := mb_law_tear_1)
    (fun (st : Br × Bool × List Br) ρ => ∃ a9', ρ = rgT s d b st.2.2 w st.1 st.2.1 a9' a10 ∧ st.2.2 ++ (if st.2.1 = true then run h w st.1 else []) = acc ++ run h w b) (fun st ρ => st.2.1 = false) (fun st => if st.2.1 = true then (run h w st.1).length + 1 else 0) (by
      rintro ⟨x, mo, ac⟩ ρ ⟨a9', rfl, e⟩
      cases mo with
      | false => left; exact ⟨by simp [rgT], rfl⟩
      | true =>
        right
        simp only [if_true] at e
        have hl2 : ac.length < 1000 := by
          have := congrArg List.length e
          simp only [List.length_append] at this; omega
        refine ⟨by simp [rgT], ?_⟩
        have st := lt_step (s := s) (d := d) (b := b) (c := x) (acc := ac) (a9 := a9') (a10 := a10) hd hw hl2
        rw [run_eq hb hw x] at e
        by_cases q : whole4 h (cor x w) = true
        · rw [if_pos q] at st e
          refine ⟨(nxt x w, true, ac ++ [nxt x w]), _, st, ⟨_, rfl, ?_⟩, ?_⟩
          · simpa using e
          · simp only [if_true]; rw [run_eq hb hw x, if_pos q]; simp
        · rw [if_neg q] at st e
          refine ⟨(x, false, ac), _, st, ⟨_, rfl, ?_⟩, ?_⟩
          · simpa using e
          · simp) 1000 (b, true, acc) (rgT s d b acc w b true a9 a10) ⟨a9, rfl, by simp⟩ (by simp only [if_true]; omega)
  simp only at h2 h3
  subst h2
  simp only [Bool.false_eq_true, if_false, List.append_nil] at h3
  subst h3
  exact ⟨c, a9', h1⟩
theorem fm_law_tear_eq (d : D) (h : List Br) (fs : List Fl) (ps : List Br) (b : Br) (hd : ∀ b : Br, notInF (eB b) d = some (decide (b ∉ h))) (hb : BdB h) : fm_law_tear [eS fs ps, d, eB b] = ok (.val (oT (tear h ps b))) := by
  have l1 := run_len hb (w := -1) (.inr rfl) b
  have l2 := run_len hb (w := 1) (.inl rfl) b
  have body : ∀ (w : Int) (acc : List Br) (a5 a6 a7 a8 a9 : Option RV), (w = 1 ∨ w = -1) → acc.length ≤ 100 → ∃ c a9', mb_law_tear_2 [some (.val (eS fs ps)), some (.val d), some (.val (eB b)), some (.ownL (acc.map eB)), some (.val (.int w)), a5, a6, a7, a8, a9, none] = some (.nx (rgT (eS fs ps) d b (acc ++ run h w b) w c false a9' none)) := by
    intro w acc a5 a6 a7 a8 a9 hw hl
    obtain ⟨c, a9', e⟩ := lt_loop (s := eS fs ps) (d := d) (b := b) (a9 := a9) (a10 := none) hd hb hw hl
    refine ⟨c, a9', ?_⟩
    have t1 : tgtM (.tup [5, 6, 7]) (eB b) [some (.val (eS fs ps)), some (.val d), some (.val (eB b)), some (.ownL (acc.map eB)), some (.val (.int w)), a5, a6, a7, a8, a9, none] = some [some (.val (eS fs ps)), some (.val d), some (.val (eB b)), some (.ownL (acc.map eB)), some (.val (.int w)), some (.val (.str (wd b.1))), some (.val (.int b.2.1)), some (.val (.int b.2.2)), a8, a9, none] := rfl
    simp only [rgT] at e
    simp [mb_law_tear_2, t1, e, rgT, -List.map_append]
  obtain ⟨c1, d1, e1⟩ := body 1 [b] none none none none none (.inl rfl) (by simp)
  obtain ⟨c2, d2, e2⟩ := body (-1) ([b] ++ run h 1 b) (some (.val (.str (wd c1.1)))) (some (.val (.int c1.2.1))) (some (.val (.int c1.2.2))) (some (.val (.bool false))) d1 (.inr rfl) (by simp; omega)
  have hfor : mFor (.one 4) mb_law_tear_2 [.int 1, .int (-1)] [some (.val (eS fs ps)), some (.val d), some (.val (eB b)), some (.ownL [eB b]), none, none, none, none, none, none, none] = some (.nx (rgT (eS fs ps) d b ([b] ++ run h 1 b ++ run h (-1) b) (-1) c2 false d2 none)) := by
    simp only [List.map_cons, List.map_nil] at e1
    simp only [rgT] at e1 e2 ⊢
    simp only [mFor, u_tg1, List.set_cons_succ, List.set_cons_zero, e1, e2]
  have hp : sE ([b] ++ run h 1 b ++ run h (-1) b) = line h b := sE_congr (by
    rw [List.perm_iff_count]; intro a; simp only [List.count_append]; omega)
  have hs := sort_B ([b] ++ run h 1 b ++ run h (-1) b) (by simp; omega)
  rw [hp] at hs
  have ht := tup_B (line h b) (by have := line_len hb b; omega)
  generalize hX : [b] ++ run h 1 b ++ run h (-1) b = X at hfor hs hp
  have hXl : X.length ≤ 19 := by rw [← hX]; simp; omega
  have hmem : ∀ x, x ∈ line h b ↔ x ∈ X := fun x => by rw [← hp, sE_mem]
  simp only [fm_law_tear, m_law_tear, u_runD, List.map_cons, List.map_nil, List.length_cons, List.length_nil, List.replicate, List.cons_append, List.nil_append, Nat.reduceAdd, Nat.reduceSub]
  by_cases hm : b ∈ h
  · simp [hd, hm, hfor, rgT]
    rw [eLc_of (α := Br) eB (fun x => decide (x ∉ ps)) eB X (by simp) (by simp) (by omega) (fun a _ => ⟨_, rfl, by simp [eS, eBs], by simp⟩)]
    have en := ne_lst (α := Br) (X.filter fun x => decide (x ∉ ps)) []
    have en' : neF (.list ((X.filter fun x => decide (x ∉ ps)).map eB)) (.list []) = some (decide ((X.filter fun x => decide (x ∉ ps)) ≠ [])) := en.trans (by congr)
    simp only [u_dl, eb_ok, en', lift_some]
    by_cases q : ∀ x ∈ line h b, x ∈ ps
    · rw [show tear h ps b = some (line h b) from if_pos ⟨hm, q⟩]
      have q' : (X.filter fun x => decide (x ∉ ps)) = [] := by
        rw [List.filter_eq_nil_iff]; intro a ha; simp; exact q a ((hmem a).mpr ha)
      rw [q']
      simp [hs, ht, oT]
    · rw [show tear h ps b = none from if_neg fun z => q z.2]
      have q' : ¬ (X.filter fun x => decide (x ∉ ps)) = [] := fun z => q fun x hx => by
        have := List.filter_eq_nil_iff.mp z x ((hmem x).mp hx)
        simpa using this
      rw [show decide ((X.filter fun x => decide (x ∉ ps)) ≠ []) = true from decide_eq_true q']
      simp [oT]
  · rw [show tear h ps b = none from if_neg fun z => hm z.1]
    simp [hd, hm, oT]
end TS
/-! A10: which fields hang on which -/
namespace TS
open PySem PySem.Spec PyProof.Rows L2 En EnK

/-- the fields that hang on f by some borders -/
def adjL (hs : List Br) (f : Fl) : List Fl := hs.flatMap fun b => (if atA b = f then [atZ b] else []) ++ (if atZ b = f then [atA b] else [])
theorem adjL_mem (hs : List Br) (f g : Fl) : g ∈ adjL hs f ↔ ∃ b ∈ hs, (atA b = f ∧ atZ b = g) ∨ (atZ b = f ∧ atA b = g) := by
  simp only [adjL, List.mem_flatMap, List.mem_append]
  constructor
  · rintro ⟨b, hb, h⟩
    refine ⟨b, hb, ?_⟩
    rcases h with h | h
    · split at h
      · rename_i e; simp at h; exact .inl ⟨e, h.symm⟩
      · simp at h
    · split at h
      · rename_i e; simp at h; exact .inr ⟨e, h.symm⟩
      · simp at h
  · rintro ⟨b, hb, h⟩
    refine ⟨b, hb, ?_⟩
    rcases h with ⟨rfl, rfl⟩ | ⟨rfl, rfl⟩
    · left; simp
    · right; simp
theorem adjL_len (f : Fl) : ∀ hs : List Br, (adjL hs f).length ≤ 2 * hs.length
  | [] => by simp [adjL]
  | b :: hs => by
    have := adjL_len f hs
    rw [show adjL (b :: hs) f = ((if atA b = f then [atZ b] else []) ++ (if atZ b = f then [atA b] else [])) ++ adjL hs f from rfl]
    simp only [List.length_append, List.length_cons]
    split <;> split <;> simp only [List.length_cons, List.length_nil] <;> omega
theorem adjL_snoc (hs : List Br) (b : Br) (f : Fl) : adjL (hs ++ [b]) f = adjL hs f ++ ((if atA b = f then [atZ b] else []) ++ (if atZ b = f then [atA b] else [])) := by simp [adjL]
/-- near, as the loop holds it -/
def kvM (fs : List Fl) (L : Fl → List Fl) : List (D × List D) := fs.map fun f => (eF f, (L f).map eF)
def kF (f : Fl) : NK := EnK.ks f
theorem kof_F (f : Fl) : kOf (eF f) = some (kF f) := EnK.kof f
theorem nk_F (f : Fl) : nkey (eF f) = some (kF f) := nkey_en f
theorem kF_inj {f g : Fl} (h : kF f = kF g) : f = g := EnK.inj f g h
theorem mFind_kvM (L : Fl → List Fl) (g : Fl) : ∀ fs : List Fl, mFind (kvM fs L) (kF g) = if g ∈ fs then some ((L g).map eF) else none
  | [] => rfl
  | f :: fs => by
    have ih := mFind_kvM L g fs
    simp only [mFind, kvM, List.map_cons, List.find?_cons, nk_F, Option.some.injEq] at ih ⊢
    by_cases h : f = g
    · subst h; simp
    · have h1 : kF f ≠ kF g := fun e => h (kF_inj e)
      have h2 : ¬ g = f := fun e => h e.symm
      simp only [h1, decide_false, List.mem_cons, h2, false_or]
      exact ih
theorem mApp_kvM (L : Fl → List Fl) (g d : Fl) (fs : List Fl) : mApp (kvM fs L) (kF g) (eF d) = kvM fs fun f => L f ++ if g = f then [d] else [] := by
  simp only [mApp, kvM, List.map_map]
  refine List.map_congr_left fun f _ => ?_
  simp only [Function.comp, nk_F, Option.some.injEq]
  by_cases h : g = f
  · subst h; simp
  · have h1 : ¬ kF f = kF g := fun e => h (kF_inj e.symm)
    simp [h, h1]
theorem mNear_eq : ∀ (fs pre : List Fl), (pre ++ fs).Nodup → pre.length + fs.length ≤ 1000 → mNear (fs.map eF) (kvM pre fun _ => []) = some (kvM (pre ++ fs) fun _ => [])
  | [], pre, _, _ => by simp [mNear]
  | f :: fs, pre, h, hl => by
    have hf : f ∉ pre := fun h1 => (List.nodup_append.mp h).2.2 f h1 f List.mem_cons_self rfl
    have ih := mNear_eq fs (pre ++ [f]) (by simpa using h) (by simp at hl ⊢; omega)
    have e : kvM pre (fun _ => []) ++ [(eF f, [])] = kvM (pre ++ [f]) fun _ => [] := by simp [kvM]
    have hl2 : (kvM pre fun _ => []).length < 1000 := by simp [kvM] at hl ⊢; omega
    simp only [List.map_cons, mNear, kof_F, mFind_kvM, hf, if_false, Option.isNone_none, hl2, and_self, if_true, e, ih]
    simp
theorem nLoop_eq {iN iB jO jT : Nat} {mA : SM} {fs : List Fl} (hs : List Br) (I : Regs → Prop) (hI : ∀ ρ b, I ρ → ∃ ρ2, mA (ρ.set iB (some (.val (eB b)))) = some (.nx ρ2) ∧ ρ2[iN]? = some none ∧ ρ2[jO]? = some (some (.val (eF (atA b)))) ∧ ρ2[jT]? = some (some (.val (eF (atZ b)))) ∧ I ρ2)
    (hin : ∀ b ∈ hs, atA b ∈ fs ∧ atZ b ∈ fs) (hl : hs.length ≤ 400) : ∀ (post pre : List Br) (ρ : Regs), pre ++ post = hs → I ρ → ∃ ρ', nLoop iN iB jO jT mA (post.map eB) ρ (kvM fs (adjL pre)) = some (ρ', kvM fs (adjL hs)) ∧ (I ρ')
  | [], pre, ρ, e, i => by
    rw [List.append_nil] at e; subst e
    exact ⟨ρ, rfl, i⟩
  | b :: post, pre, ρ, e, i => by
    obtain ⟨ρ2, h1, h2, h3, h4, h5⟩ := hI ρ b i
    have hb : b ∈ hs := by rw [← e]; simp
    obtain ⟨a1, a2⟩ := hin b hb
    obtain ⟨ρ', h6, h7⟩ := nLoop_eq hs I hI hin hl post (pre ++ [b]) ρ2 (by simpa using e) h5
    refine ⟨ρ', ?_, h7⟩
    have hpl : pre.length < 400 := by rw [← e] at hl; simp at hl; omega
    have n1 := adjL_len (atA b) pre
    have n2 := adjL_len (atZ b) pre
    have hL : (fun f => (adjL pre f ++ if atA b = f then [atZ b] else []) ++ if atZ b = f then [atA b] else []) = adjL (pre ++ [b]) := by
      funext f; rw [adjL_snoc, List.append_assoc]
    simp only [List.map_cons, nLoop, h1, h2, h3, h4, kof_F, mFind_kvM, a1, a2, if_true, mApp_kvM, hL]
    rw [if_pos]
    · exact h6
    · constructor
      · simp; omega
      · simp only [List.length_map, List.length_append]; split <;> simp <;> omega
end TS
/-! A11: the lots that hang together -/
namespace TS
open PySem PySem.Spec PyProof.Rows L2 En EnK

theorem nodup_len {α : Type} [DecidableEq α] : ∀ (xs ys : List α), xs.Nodup → (∀ x ∈ xs, x ∈ ys) → xs.length ≤ ys.length
  | [], _, _, _ => Nat.zero_le _
  | x :: xs, ys, h, hs => by
    rw [List.nodup_cons] at h
    have hx : x ∈ ys := hs x List.mem_cons_self
    have ih := nodup_len xs (ys.erase x) h.2 fun y hy => by
      have : y ≠ x := fun e => h.1 (e ▸ hy)
      exact (List.mem_erase_of_ne this).mpr (hs y (List.mem_cons_of_mem _ hy))
    rw [List.length_erase_of_mem hx] at ih
    have : 0 < ys.length := List.length_pos_of_mem hx
    simp only [List.length_cons]; omega
/-- come to from a, one beside the other -/
inductive Reach (adj : Fl → List Fl) (a : Fl) : Fl → Prop
  | refl : Reach adj a a
  | step {b c : Fl} : Reach adj a b → c ∈ adj b → Reach adj a c
/-- what is new of some fields -/
def newT : List Fl → List Fl → List Fl
  | _, [] => []
  | sn, a :: as => if a ∈ sn then newT sn as else a :: newT (sn ++ [a]) as
theorem newT_mem (x : Fl) : ∀ (as sn : List Fl), x ∈ newT sn as ↔ x ∈ as ∧ x ∉ sn
  | [], sn => by simp [newT]
  | a :: as, sn => by
    rw [newT]
    by_cases h : a ∈ sn
    · rw [if_pos h, newT_mem x as sn]
      constructor
      · rintro ⟨h1, h2⟩; exact ⟨List.mem_cons_of_mem _ h1, h2⟩
      · rintro ⟨h1, h2⟩
        rcases List.mem_cons.mp h1 with rfl | h1
        · exact absurd h h2
        · exact ⟨h1, h2⟩
    · rw [if_neg h, List.mem_cons, newT_mem x as (sn ++ [a])]
      simp only [List.mem_append, List.mem_singleton, List.mem_cons]
      constructor
      · rintro (rfl | ⟨h1, h2⟩)
        · exact ⟨.inl rfl, h⟩
        · exact ⟨.inr h1, fun z => h2 (.inl z)⟩
      · rintro ⟨rfl | h1, h2⟩
        · exact .inl rfl
        · by_cases e : x = a
          · exact .inl e
          · exact .inr ⟨h1, fun z => by simp_all⟩
theorem newT_nodup : ∀ (as sn : List Fl), (newT sn as).Nodup
  | [], sn => by simp [newT]
  | a :: as, sn => by
    rw [newT]
    by_cases h : a ∈ sn
    · rw [if_pos h]; exact newT_nodup as sn
    · rw [if_neg h, List.nodup_cons]
      exact ⟨fun z => ((newT_mem a as _).mp z).2 (by simp), newT_nodup as _⟩
theorem newT_snoc : ∀ (as sn : List Fl) (a : Fl), newT sn (as ++ [a]) = newT sn as ++ if a ∈ sn ++ newT sn as then [] else [a]
  | [], sn, a => by simp [newT]
  | x :: as, sn, a => by
    by_cases h : x ∈ sn
    · have e1 : newT sn (x :: as) = newT sn as := by rw [newT, if_pos h]
      have e2 : newT sn (x :: as ++ [a]) = newT sn (as ++ [a]) := by rw [List.cons_append, newT, if_pos h]
      simp only [e1, e2]; exact newT_snoc as sn a
    · have e1 : newT sn (x :: as) = x :: newT (sn ++ [x]) as := by rw [newT, if_neg h]
      have e2 : newT sn (x :: as ++ [a]) = x :: newT (sn ++ [x]) (as ++ [a]) := by rw [List.cons_append, newT, if_neg h]
      simp only [e1, e2, newT_snoc as (sn ++ [x]) a]
      simp
/-- the state of the search -/
structure Sea (fs : List Fl) (adj : Fl → List Fl) (sn0 : List Fl) (f0 : Fl) (wt fd sn : List Fl) : Prop where
  nd : sn.Nodup
  sub : ∀ x ∈ sn, x ∈ fs
  nd2 : (fd ++ wt).Nodup
  mem : ∀ x, x ∈ fd ++ wt ↔ x ∈ sn ∧ x ∉ sn0
  cl : ∀ x ∈ fd, ∀ y ∈ adj x, y ∈ sn
  rc : ∀ x ∈ fd ++ wt, Reach adj f0 x
  old : ∀ x ∈ sn0, x ∈ sn
theorem Sea.len {fs : List Fl} {adj : Fl → List Fl} {sn0 wt fd sn : List Fl} {f0 : Fl} (S : Sea fs adj sn0 f0 wt fd sn) : (fd ++ wt).length ≤ fs.length :=
  nodup_len _ _ S.nd2 fun x hx => S.sub x ((S.mem x).mp hx).1
theorem Sea.step {fs : List Fl} {adj : Fl → List Fl} {sn0 wt fd sn : List Fl} {f0 h : Fl} (ha : ∀ x ∈ fs, ∀ y ∈ adj x, y ∈ fs) (S : Sea fs adj sn0 f0 (wt ++ [h]) fd sn) : Sea fs adj sn0 f0 (wt ++ newT sn (adj h)) (fd ++ [h]) (sn ++ newT sn (adj h)) := by
  have hh : h ∈ fd ++ (wt ++ [h]) := by simp
  have hhs := (S.mem h).mp hh
  have hhf := S.sub h hhs.1
  have nm : ∀ x, x ∈ newT sn (adj h) ↔ x ∈ adj h ∧ x ∉ sn := fun x => newT_mem x _ _
  have mm : ∀ x, x ∈ fd ++ [h] ++ (wt ++ newT sn (adj h)) ↔ x ∈ fd ++ (wt ++ [h]) ∨ x ∈ newT sn (adj h) := fun x => by
    simp only [List.mem_append, List.mem_singleton]
    constructor
    · rintro ((h1 | h1) | (h1 | h1)) <;> simp [h1]
    · rintro ((h1 | (h1 | h1)) | h1) <;> simp [h1]
  refine ⟨?_, ?_, ?_, ?_, ?_, ?_, ?_⟩
  · rw [List.nodup_append]
    exact ⟨S.nd, newT_nodup _ _, fun a ha b hb e => ((nm b).mp hb).2 (e ▸ ha)⟩
  · intro x hx
    rcases List.mem_append.mp hx with hx | hx
    · exact S.sub x hx
    · exact ha h hhf x ((nm x).mp hx).1
  · have p : (fd ++ [h] ++ (wt ++ newT sn (adj h))).Perm ((fd ++ (wt ++ [h])) ++ newT sn (adj h)) := by
      rw [List.perm_iff_count]; intro a; simp only [List.count_append]; omega
    rw [p.nodup_iff, List.nodup_append]
    exact ⟨S.nd2, newT_nodup _ _, fun a ha b hb e => ((nm b).mp hb).2 (e ▸ ((S.mem a).mp ha).1)⟩
  · intro x
    rw [mm, S.mem, List.mem_append]
    constructor
    · rintro (⟨h1, h2⟩ | h1)
      · exact ⟨.inl h1, h2⟩
      · exact ⟨.inr h1, fun z => ((nm x).mp h1).2 (S.old x z)⟩
    · rintro ⟨h1 | h1, h2⟩
      · exact .inl ⟨h1, h2⟩
      · exact .inr h1
  · intro x hx y hy
    rw [List.mem_append]
    rcases List.mem_append.mp hx with hx | hx
    · exact .inl (S.cl x hx y hy)
    · rw [List.mem_singleton] at hx; subst hx
      by_cases q : y ∈ sn
      · exact .inl q
      · exact .inr ((nm y).mpr ⟨hy, q⟩)
  · intro x hx
    rcases (mm x).mp hx with h1 | h1
    · exact S.rc x h1
    · exact (S.rc h hh).step ((nm x).mp h1).1
  · intro x hx; exact List.mem_append_left _ (S.old x hx)
/-- the end of the search: all that is come to -/
theorem Sea.done {fs : List Fl} {adj : Fl → List Fl} {sn0 fd sn : List Fl} {f0 : Fl} (S : Sea fs adj sn0 f0 [] fd sn) (hf : f0 ∈ fd) (hsy : ∀ x y, y ∈ adj x → x ∈ adj y) (hc : ∀ x ∈ sn0, ∀ y ∈ adj x, y ∈ sn0) (x : Fl) : x ∈ fd ↔ Reach adj f0 x := by
  constructor
  · intro h; exact S.rc x (by simpa using h)
  · intro h
    induction h with
    | refl => exact hf
    | step h1 h2 ih =>
      have m1 := (S.mem _).mp (List.mem_append_left [] ih)
      have m2 := S.cl _ ih _ h2
      have m3 := (S.mem _).mpr ⟨m2, fun z => m1.2 (hc _ z _ (hsy _ _ h2))⟩
      simpa using m3
end TS
/-! A12: lot_from and parts_of over typed data -/
namespace TS
open PySem PySem.Spec PyProof.Rows L2 En EnK

abbrev rgL (f0 : Fl) (dn : D) (sn wt fd : List Fl) (a5 a6 : Option RV) : Regs := [some (.val (eF f0)), some (.val dn), some (.ownD (kvT sn)), some (.ownL (wt.map eF)), some (.ownL (fd.map eF)), a5, a6]
theorem kvT_len (xs : List Fl) : (kvT xs).length = xs.length := by simp [kvT]
theorem put_F (xs : List Fl) (a : Fl) (h : a ∉ xs) : dPut (kvT xs) (kF a) (eF a) (.bool true) = kvT (xs ++ [a]) := by
  have := dPut_kvT xs a
  rw [if_neg h] at this
  exact this
theorem lot_inner {f0 h : Fl} {dn : D} {sn wt fd as : List Fl} {a6 : Option RV} (hl : sn.length + as.length < 900) (hw : wt.length + as.length < 900) :
    ∃ a6', mFor (.one 6) mb_lot_from_1 (as.map eF) (rgL f0 dn sn wt fd (some (.val (eF h))) a6) = some (.nx (rgL f0 dn (sn ++ newT sn as) (wt ++ newT sn as) fd (some (.val (eF h))) a6')) := by
  obtain ⟨ρ', h1, a6', rfl⟩ := mFor_of (α := Fl) eF (t := .one 6) (m := mb_lot_from_1) (fun pre ρ => ∃ a6, ρ = rgL f0 dn (sn ++ newT sn pre) (wt ++ newT sn pre) fd (some (.val (eF h))) a6) as (by
    rintro pre a post ρ e ⟨a6, rfl⟩
    refine ⟨_, rgL f0 dn (sn ++ newT sn (pre ++ [a])) (wt ++ newT sn (pre ++ [a])) fd (some (.val (eF h))) (some (.val (eF a))), rfl, ?_, _, rfl⟩
    have hlen : pre.length ≤ as.length := by rw [← e]; simp
    have hn : (newT sn pre).length ≤ pre.length := nodup_len _ _ (newT_nodup _ _) fun x hx => ((newT_mem x _ _).mp hx).1
    rw [newT_snoc]
    by_cases q : a ∈ sn ++ newT sn pre
    · rw [if_pos q]; simp only [List.append_nil]
      simp [mb_lot_from_1, rgL, q, -List.mem_append]
    · rw [if_neg q, ← List.append_assoc, ← List.append_assoc]
      have l1 : (kvT (sn ++ newT sn pre)).length < 1000 := by rw [kvT_len, List.length_append]; omega
      have l2 : ((wt ++ newT sn pre).map eF).length < 1000 := by rw [List.length_map, List.length_append]; omega
      generalize hA : sn ++ newT sn pre = A at q l1 ⊢
      generalize hB : wt ++ newT sn pre = B at l2 ⊢
      rw [List.length_map] at l2
      simp [mb_lot_from_1, rgL, q, l1, l2, kof_F, put_F _ _ q]) (rgL f0 dn sn wt fd (some (.val (eF h))) a6) ⟨a6, by simp [newT]⟩
  exact ⟨a6', h1⟩
theorem lot_while {fs : List Fl} {adj : Fl → List Fl} {sn0 : List Fl} {f0 : Fl} {dn : D} (hfs : fs.length ≤ 400) (hal : ∀ x, (adj x).length ≤ 450) (ha : ∀ x ∈ fs, ∀ y ∈ adj x, y ∈ fs) (hn : ∀ x ∈ fs, idxF dn (eF x) = some (.list ((adj x).map eF)))
    {wt fd sn : List Fl} (S : Sea fs adj sn0 f0 wt fd sn) (hf : f0 ∈ fd ++ wt) (a5 a6 : Option RV) :
    ∃ fd' sn' a5' a6', mWhile (bT (oVar 3)) mb_lot_from_2 1000 (rgL f0 dn sn wt fd a5 a6) = some (.nx (rgL f0 dn sn' [] fd' a5' a6')) ∧ Sea fs adj sn0 f0 [] fd' sn' ∧ f0 ∈ fd' := by
  obtain ⟨⟨w', d', s'⟩, ρ', h1, ⟨a5', a6', rfl, S', hf'⟩, h2⟩ := mWhile_of (c := bT (oVar 3)) (b := mb_lot_from_2)
    (fun (st : List Fl × List Fl × List Fl) ρ => ∃ a5 a6, ρ = rgL f0 dn st.2.2 st.1 st.2.1 a5 a6 ∧ Sea fs adj sn0 f0 st.1 st.2.1 st.2.2 ∧ f0 ∈ st.2.1 ++ st.1) (fun st ρ => st.1 = []) (fun st => fs.length - st.2.1.length) (by
      rintro ⟨w, d, s⟩ ρ ⟨a5, a6, rfl, S, hf⟩
      simp only at S hf
      rcases List.eq_nil_or_concat w with rfl | ⟨w0, h, rfl⟩
      · left; exact ⟨by simp [rgL], rfl⟩
      · right
        rw [List.concat_eq_append] at S hf ⊢
        have hlen := S.len
        simp only [List.length_append, List.length_cons, List.length_nil] at hlen
        have hsn : s.length ≤ fs.length := nodup_len _ _ S.nd S.sub
        have hh : h ∈ fs := S.sub h ((S.mem h).mp (by simp)).1
        have hx := hal h
        obtain ⟨a6', e⟩ := lot_inner (f0 := f0) (h := h) (dn := dn) (sn := s) (wt := w0) (fd := d ++ [h]) (as := adj h) (a6 := a6) (by omega) (by omega)
        have hnh := hn h hh
        have hemp : ∀ (zs : List D) (z : D), (zs ++ [z]).isEmpty = false := fun zs z => by cases zs <;> rfl
        refine ⟨by simp [rgL, hemp], (w0 ++ newT s (adj h), d ++ [h], s ++ newT s (adj h)), rgL f0 dn (s ++ newT s (adj h)) (w0 ++ newT s (adj h)) (d ++ [h]) (some (.val (eF h))) a6', ?_, ⟨_, _, rfl, S.step ha, ?_⟩, ?_⟩
        · simp only [rgL] at e ⊢
          simp only [List.map_append, List.map_cons, List.map_nil] at e ⊢
          simp [mb_lot_from_2, sPopTo, hnh]
          rw [if_pos (by omega)]
          simp [hnh, e]
        · simp only [List.mem_append, List.mem_singleton] at hf ⊢
          rcases hf with hf | hf | hf
          · exact .inl (.inl hf)
          · exact .inr (.inl hf)
          · exact .inl (.inr hf)
        · simp only [List.length_append, List.length_cons, List.length_nil]; omega) 1000 (wt, fd, sn) (rgL f0 dn sn wt fd a5 a6) ⟨a5, a6, rfl, S, hf⟩ (by simp only; omega)
  simp only at h2 S' hf'
  subst h2
  exact ⟨d', s', a5', a6', h1, S', by simpa using hf'⟩
theorem lot_eq {fs : List Fl} {adj : Fl → List Fl} {sn0 : List Fl} {f0 : Fl} {dn : D} (hfs : fs.length ≤ 400) (hal : ∀ x, (adj x).length ≤ 450) (ha : ∀ x ∈ fs, ∀ y ∈ adj x, y ∈ fs) (hn : ∀ x ∈ fs, idxF dn (eF x) = some (.list ((adj x).map eF)))
    (h0 : sn0.Nodup) (h1 : ∀ x ∈ sn0, x ∈ fs) (h2 : f0 ∈ fs) (h3 : f0 ∉ sn0) :
    ∃ fd sn' ρ', m_lot_from [some (.val (eF f0)), some (.val dn), some (.ownD (kvT (sn0 ++ [f0]))), none, none, none, none] = some (.rt (.val (eFs (sE fd))) ρ') ∧ regD ρ' 2 = some (kvT sn') ∧ Sea fs adj sn0 f0 [] fd sn' ∧ f0 ∈ fd := by
  have S : Sea fs adj sn0 f0 [f0] [] (sn0 ++ [f0]) := by
    refine ⟨?_, ?_, by simp, ?_, by simp, ?_, ?_⟩
    · rw [List.nodup_append]; exact ⟨h0, by simp, fun a ha b hb e => h3 (by simp at hb; rw [← hb, ← e]; exact ha)⟩
    · intro x hx; rcases List.mem_append.mp hx with hx | hx
      · exact h1 x hx
      · simp at hx; rw [hx]; exact h2
    · intro x; simp only [List.nil_append, List.mem_singleton, List.mem_append]
      constructor
      · rintro rfl; exact ⟨.inr rfl, h3⟩
      · rintro ⟨h | h, h'⟩
        · exact absurd h h'
        · exact h
    · intro x hx; simp at hx; rw [hx]; exact .refl
    · intro x hx; exact List.mem_append_left _ hx
  obtain ⟨fd, sn', a5, a6, e, S', hf⟩ := lot_while (dn := dn) hfs hal ha hn S (by simp) none none
  have hl := S'.len
  rw [List.append_nil] at hl
  have hs := sort_F fd (by omega)
  have ht := tup_F (sE fd) (by rw [sE_len]; omega)
  simp only [rgL, List.map_cons, List.map_nil] at e
  exact ⟨fd, sn', _, by simp [m_lot_from, e, hs, ht]; rfl, by simp, S', hf⟩
end TS
/-! A13: parts_of -/
namespace TS
open PySem PySem.Spec PyProof.Rows L2 En EnK

open Classical in
/-- the lot that f hangs in -/
noncomputable def lotOf (fs : List Fl) (adj : Fl → List Fl) (f : Fl) : List Fl := sE (fs.filter fun x => decide (Reach adj f x))
theorem lotOf_mem (fs : List Fl) (adj : Fl → List Fl) (f x : Fl) : x ∈ lotOf fs adj f ↔ x ∈ fs ∧ Reach adj f x := by
  simp [lotOf, sE_mem]
theorem lotOf_is {fs : List Fl} {adj : Fl → List Fl} {sn0 fd sn : List Fl} {f0 : Fl} (hfn : fs.Nodup) (S : Sea fs adj sn0 f0 [] fd sn) (hf : f0 ∈ fd) (hsy : ∀ x y, y ∈ adj x → x ∈ adj y) (hc : ∀ x ∈ sn0, ∀ y ∈ adj x, y ∈ sn0) : sE fd = lotOf fs adj f0 := by
  have nd := S.nd2
  rw [List.append_nil] at nd
  have nl : (lotOf fs adj f0).Nodup := (sE_perm _).nodup_iff.mpr (List.Pairwise.filter _ hfn)
  have p : fd.Perm (lotOf fs adj f0) := perm_of nd nl fun x => by
    rw [lotOf_mem, ← S.done hf hsy hc x]
    exact ⟨fun h => ⟨S.sub x ((S.mem x).mp (by simpa using h)).1, h⟩, fun h => h.2⟩
  exact srt_uniq (sE_srt _) (sE_srt _) ((sE_perm fd).trans p)
open Classical in
/-- the first fields of the lots -/
noncomputable def heads (adj : Fl → List Fl) (fs : List Fl) : List Fl := fs.foldl (fun acc f => if ∃ h ∈ acc, Reach adj h f then acc else acc ++ [f]) []
open Classical in
theorem heads_snoc (adj : Fl → List Fl) (pre : List Fl) (a : Fl) : heads adj (pre ++ [a]) = if ∃ h ∈ heads adj pre, Reach adj h a then heads adj pre else heads adj pre ++ [a] := by
  simp [heads, List.foldl_append]
theorem heads_len (adj : Fl → List Fl) (fs : List Fl) : (heads adj fs).length ≤ fs.length := by
  have : ∀ rs : List Fl, (heads adj rs.reverse).length ≤ rs.length := by
    intro rs
    induction rs with
    | nil => simp [heads]
    | cons a rs ih =>
      rw [List.reverse_cons, heads_snoc]
      split
      · simp only [List.length_cons]; omega
      · simp only [List.length_append, List.length_cons, List.length_nil]; omega
  simpa using this fs.reverse
/-- the lots, by their first fields -/
noncomputable def lots (fs : List Fl) (adj : Fl → List Fl) : List (List Fl) := (heads adj fs).map (lotOf fs adj)
theorem Reach.trans {adj : Fl → List Fl} {a b c : Fl} (h1 : Reach adj a b) (h2 : Reach adj b c) : Reach adj a c := by
  induction h2 with
  | refl => exact h1
  | step _ h ih => exact ih.step h
theorem Reach.symm {adj : Fl → List Fl} (hsy : ∀ x y, y ∈ adj x → x ∈ adj y) {a b : Fl} (h : Reach adj a b) : Reach adj b a := by
  induction h with
  | refl => exact .refl
  | step _ h ih => exact (Reach.refl.step (hsy _ _ h)).trans ih
theorem Reach.sub {fs : List Fl} {adj : Fl → List Fl} (ha : ∀ x ∈ fs, ∀ y ∈ adj x, y ∈ fs) {a b : Fl} (h0 : a ∈ fs) (h : Reach adj a b) : b ∈ fs := by
  induction h with
  | refl => exact h0
  | step _ h ih => exact ha _ ih _ h
theorem adjL_symm (hs : List Br) : ∀ x y, y ∈ adjL hs x → x ∈ adjL hs y := by
  intro x y h
  rw [adjL_mem] at h ⊢
  obtain ⟨b, hb, h⟩ := h
  exact ⟨b, hb, h.elim (fun e => .inr ⟨e.2, e.1⟩) (fun e => .inl ⟨e.2, e.1⟩)⟩
/-- the dict near, as data -/
def nearD (fs : List Fl) (hs : List Br) : D := .dict (frK (kvM fs (adjL hs)))
theorem idx_near (fs : List Fl) (hs : List Br) : ∀ x ∈ fs, idxF (nearD fs hs) (eF x) = some (.list ((adjL hs x).map eF)) := by
  intro x hx
  have : ∀ ks : List Fl, x ∈ ks → dFind (frK (kvM ks (adjL hs))) (kF x) = some (.list ((adjL hs x).map eF)) := by
    intro ks
    induction ks with
    | nil => intro h; cases h
    | cons k ks ih =>
      intro h
      simp only [frK, kvM, List.map_cons, dFind, List.find?_cons, nk_F, Option.some.injEq] at ih ⊢
      by_cases e : k = x
      · subst e; simp
      · have e1 : ¬ kF k = kF x := fun z => e (kF_inj z)
        simp only [e1, decide_false]
        exact ih ((List.mem_cons.mp h).resolve_left fun z => e z.symm)
  simp only [nearD, idxF, kof_F]
  simpa using this fs hx
abbrev rgP (df dh dn : D) (a4 a5 a6 : Option RV) (sn : List Fl) (ls : List (List Fl)) (a3 : Option RV) : Regs :=
  [some (.val df), some (.val dh), some (.val dn), a3, a4, a5, a6, some (.ownD (kvT sn)), some (.ownL (ls.map eFs))]
theorem parts_loop {fs : List Fl} {hs : List Br} {df dh : D} (a0 a4 a5 a6 : Option RV) (hfs : fs.length ≤ 400) (hhs : hs.length ≤ 200) (hin : ∀ b ∈ hs, atA b ∈ fs ∧ atZ b ∈ fs) (hfn : fs.Nodup) :
    ∃ sn a3, mFor (.one 3) mb_parts_of_1 (fs.map eF) (rgP df dh (nearD fs hs) a4 a5 a6 [] [] a0) = some (.nx (rgP df dh (nearD fs hs) a4 a5 a6 sn (lots fs (adjL hs)) a3)) := by
  have ha : ∀ x ∈ fs, ∀ y ∈ adjL hs x, y ∈ fs := by
    intro x _ y hy
    rw [adjL_mem] at hy
    obtain ⟨b, hb, h⟩ := hy
    rcases h with ⟨_, rfl⟩ | ⟨_, rfl⟩
    · exact (hin b hb).2
    · exact (hin b hb).1
  obtain ⟨ρ', h1, sn, a3, rfl, _⟩ := mFor_of (α := Fl) eF (t := .one 3) (m := mb_parts_of_1) (fun pre ρ => ∃ sn a3, ρ = rgP df dh (nearD fs hs) a4 a5 a6 sn ((heads (adjL hs) pre).map (lotOf fs (adjL hs))) a3 ∧ sn.Nodup ∧ ∀ x, x ∈ sn ↔ x ∈ fs ∧ ∃ h ∈ heads (adjL hs) pre, Reach (adjL hs) h x) fs (by
    rintro pre a post ρ e ⟨sn, a3, rfl, hnd, hm⟩
    have hap : a ∈ fs := by rw [← e]; simp
    have hpl : (heads (adjL hs) pre).length ≤ 400 := by
      have := heads_len (adjL hs) pre
      have : pre.length ≤ fs.length := by rw [← e]; simp
      omega
    by_cases q : a ∈ sn
    · refine ⟨_, rgP df dh (nearD fs hs) a4 a5 a6 sn ((heads (adjL hs) (pre ++ [a])).map (lotOf fs (adjL hs))) (some (.val (eF a))), rfl, ?_, sn, _, rfl, hnd, ?_⟩
      · rw [heads_snoc, if_pos ((hm a).mp q).2]
        simp [mb_parts_of_1, rgP, q]
      · rw [heads_snoc, if_pos ((hm a).mp q).2]; exact hm
    · have hno : ¬ ∃ h ∈ heads (adjL hs) pre, Reach (adjL hs) h a := fun z => q ((hm a).mpr ⟨hap, z⟩)
      obtain ⟨fd, sn', ρl, e1, e2, S, hf⟩ := lot_eq (fs := fs) (adj := adjL hs) (sn0 := sn) (f0 := a) (dn := nearD fs hs) hfs (fun x => by have := adjL_len x hs; omega) ha (idx_near fs hs) hnd (fun x hx => ((hm x).mp hx).1) hap q
      have hcl : ∀ x ∈ sn, ∀ y ∈ adjL hs x, y ∈ sn := by
        intro x hx y hy
        obtain ⟨m1, h, m2, m3⟩ := (hm x).mp hx
        exact (hm y).mpr ⟨ha x m1 y hy, h, m2, m3.step hy⟩
      have hlot := lotOf_is hfn S hf (adjL_symm hs) hcl
      rw [hlot] at e1
      have hsn : sn.length ≤ fs.length := nodup_len _ _ hnd fun x hx => ((hm x).mp hx).1
      refine ⟨_, rgP df dh (nearD fs hs) a4 a5 a6 sn' ((heads (adjL hs) (pre ++ [a])).map (lotOf fs (adjL hs))) (some (.val (eF a))), rfl, ?_, sn', _, rfl, S.nd, ?_⟩
      · rw [heads_snoc, if_neg hno]
        have p1 := put_F sn a q
        have l1 : (kvT sn).length < 1000 := by rw [kvT_len]; omega
        have l2 : (heads (adjL hs) pre).length < 1000 := by omega
        simp [mb_parts_of_1, rgP, q, l1, kof_F, p1, sLot, e1, l2]
        simp at e2
        rw [e2]
      · intro x
        rw [heads_snoc, if_neg hno]
        have done := S.done hf (adjL_symm hs) hcl x
        have mem := S.mem x
        rw [List.append_nil] at mem
        constructor
        · intro hx
          refine ⟨S.sub x hx, ?_⟩
          by_cases q2 : x ∈ sn
          · obtain ⟨_, h, m2, m3⟩ := (hm x).mp q2
            exact ⟨h, by simp [m2], m3⟩
          · exact ⟨a, by simp, done.mp (mem.mpr ⟨hx, q2⟩)⟩
        · rintro ⟨h1, h, h2, h3⟩
          rcases List.mem_append.mp h2 with h2 | h2
          · exact S.old x ((hm x).mpr ⟨h1, h, h2, h3⟩)
          · rw [List.mem_singleton] at h2; subst h2
            exact (mem.mp (done.mpr h3)).1) (rgP df dh (nearD fs hs) a4 a5 a6 [] [] a0) ⟨[], a0, by simp [heads], by simp, by simp [heads]⟩
  exact ⟨sn, a3, h1⟩
theorem fm_parts_of_g (df dh : D) (fs : List Fl) (hs : List Br) (h1 : itF df = some (fs.map eF)) (h2 : itF dh = some (hs.map eB)) (hfs : fs.length ≤ 400) (hhs : hs.length ≤ 200) (hin : ∀ b ∈ hs, atA b ∈ fs ∧ atZ b ∈ fs) (hfn : fs.Nodup) : fm_parts_of [df, dh] = ok (.ownL ((lots fs (adjL hs)).map eFs)) := by
  have n0 := mNear_eq fs [] (by simpa using hfn) (by simp; omega)
  simp only [kvM, List.map_nil, List.nil_append] at n0
  obtain ⟨ρ', n1, b3, b4, b5, b6, rfl⟩ := nLoop_eq (iN := 2) (iB := 4) (jO := 5) (jT := 6) (mA := sUnp [5, 6] (oE (eCall 1 fm_fields_at (lCons (oVar 4) (lNil))))) (fs := fs) hs (fun ρ => ∃ b3 b4 b5 b6, ρ = [some (.val df), some (.val dh), none, b3, b4, b5, b6, none, none]) (by
    rintro ρ b ⟨b3, b4, b5, b6, rfl⟩
    refine ⟨[some (.val df), some (.val dh), none, b3, some (.val (eB b)), some (.val (eF (atA b))), some (.val (eF (atZ b))), none, none], ?_, rfl, rfl, rfl, _, _, _, _, rfl⟩
    simp [fm_fields_at_eq]) hin (by omega) hs [] [some (.val df), some (.val dh), none, none, none, none, none, none, none] rfl ⟨_, _, _, _, rfl⟩
  have n2 : nLoop 2 4 5 6 (sUnp [5, 6] (oE (eCall 1 fm_fields_at (lCons (oVar 4) (lNil))))) (hs.map eB) [some (.val df), some (.val dh), none, none, none, none, none, none, none] (fs.map fun f => (eF f, [])) = some ([some (.val df), some (.val dh), none, b3, b4, b5, b6, none, none], kvM fs (adjL hs)) := n1
  have n0' : mNear (fs.map eF) [] = some (fs.map fun f => (eF f, [])) := n0
  obtain ⟨sn, a3, n3⟩ := parts_loop (df := df) (dh := dh) b3 b4 b5 b6 hfs hhs hin hfn
  have e1 : iA (vVar 0) [some (.val df), some (.val dh), none, none, none, none, none, none, none] = ok (fs.map eF) := by simp [h1]
  have e2 : iA (vVar 1) [some (.val df), some (.val dh), none, none, none, none, none, none, none] = ok (hs.map eB) := by simp [h2]
  simp only [fm_parts_of, m_parts_of, u_runD, List.map_cons, List.map_nil, List.length_cons, List.length_nil, List.replicate, List.cons_append, List.nil_append, Nat.reduceAdd, Nat.reduceSub]
  unfold sNear
  simp only [e1, e2, ok, n0', n2]
  simp only [rgP, List.map_nil, kvT, nearD] at n3
  simp [h1, -List.map_map]
  rw [n2]
  simp [h1, n3, -List.map_map, lots]
  rfl
end TS
/-! A14: the laws' own search -/
namespace TS
open PySem PySem.Spec PyProof.Rows L2 En EnK

theorem Sea.permW {fs : List Fl} {adj : Fl → List Fl} {sn0 wt wt' fd sn : List Fl} {f0 : Fl} (S : Sea fs adj sn0 f0 wt fd sn) (p : wt.Perm wt') : Sea fs adj sn0 f0 wt' fd sn := by
  have q : (fd ++ wt').Perm (fd ++ wt) := List.Perm.append_left _ p.symm
  exact ⟨S.nd, S.sub, (q.nodup_iff).mpr S.nd2, fun x => by rw [q.mem_iff]; exact S.mem x, S.cl, fun x hx => S.rc x (q.mem_iff.mp hx), S.old⟩
theorem newT_filter : ∀ (as sn : List Fl), as.Nodup → newT sn as = as.filter fun a => decide (a ∉ sn)
  | [], _, _ => rfl
  | a :: as, sn, h => by
    rw [List.nodup_cons] at h
    by_cases q : a ∈ sn
    · rw [newT, if_pos q, newT_filter as sn h.2]; simp [q]
    · rw [newT, if_neg q, newT_filter as (sn ++ [a]) h.2]
      simp only [List.filter_cons, q, not_false_eq_true, decide_true, if_true, List.cons.injEq, true_and]
      refine List.filter_congr fun x hx => ?_
      have : x ≠ a := fun e => h.1 (e ▸ hx)
      simp [this]
theorem ok_ite {α : Type} (c : Prop) [Decidable c] (a b : α) : (if c then ok a else ok b) = ok (if c then a else b) := by split <;> rfl
theorem ite_and (c : Prop) [Decidable c] (b : Bool) : (if c then b else false) = (decide c && b) := by by_cases h : c <;> simp [h]
/-- the search that walks along its own list -/
def Bfs (fs : List Fl) (adj : Fl → List Fl) (f0 : Fl) (k : Nat) (fd : List Fl) : Prop := k ≤ fd.length ∧ f0 ∈ fd ∧ Sea fs adj [] f0 (fd.drop k) (fd.take k) fd
theorem Bfs.start {fs : List Fl} {adj : Fl → List Fl} {f0 : Fl} (h : f0 ∈ fs) : Bfs fs adj f0 0 [f0] := by
  refine ⟨by simp, by simp, ⟨by simp, ?_, by simp, by simp, by simp, ?_, by simp⟩⟩
  · intro x hx; simp at hx; rw [hx]; exact h
  · intro x hx; simp at hx; rw [hx]; exact .refl
theorem Bfs.step {fs : List Fl} {adj : Fl → List Fl} {f0 h : Fl} {k : Nat} {fd : List Fl} (ha : ∀ x ∈ fs, ∀ y ∈ adj x, y ∈ fs) (hnd : (adj h).Nodup) (B : Bfs fs adj f0 k fd) (hk : fd[k]? = some h) : Bfs fs adj f0 (k + 1) (fd ++ (adj h).filter fun a => decide (a ∉ fd)) := by
  obtain ⟨B1, B2, S⟩ := B
  have hk' : k < fd.length := by rw [List.getElem?_eq_some_iff] at hk; exact hk.1
  have e1 : fd.drop k = h :: fd.drop (k + 1) := by
    rw [List.drop_eq_getElem_cons hk']
    rw [List.getElem?_eq_getElem hk'] at hk
    simp at hk; rw [hk]
  have e2 : fd.take (k + 1) = fd.take k ++ [h] := by
    rw [List.take_add_one, hk]; rfl
  have S2 := (S.permW (wt' := fd.drop (k + 1) ++ [h]) (by rw [e1]; exact List.perm_append_comm (l₁ := [h]))).step ha
  rw [newT_filter _ _ hnd] at S2
  refine ⟨by simp; omega, by simp [B2], ?_⟩
  rw [List.drop_append_of_le_length (by omega), List.take_append_of_le_length (by omega), e2]
  exact S2
theorem Bfs.done {fs : List Fl} {adj : Fl → List Fl} {f0 : Fl} {k : Nat} {fd : List Fl} (B : Bfs fs adj f0 k fd) (hk : fd.length ≤ k) (hsy : ∀ x y, y ∈ adj x → x ∈ adj y) (x : Fl) : x ∈ fd ↔ Reach adj f0 x := by
  obtain ⟨B1, B2, S⟩ := B
  rw [List.drop_eq_nil_of_le hk, List.take_of_length_le hk] at S
  exact S.done B2 hsy (by simp) x
theorem Bfs.len {fs : List Fl} {adj : Fl → List Fl} {f0 : Fl} {k : Nat} {fd : List Fl} (B : Bfs fs adj f0 k fd) : fd.length ≤ fs.length := nodup_len _ _ B.2.2.nd B.2.2.sub
theorem Bfs.lot {fs : List Fl} {adj : Fl → List Fl} {f0 : Fl} {k : Nat} {fd : List Fl} (B : Bfs fs adj f0 k fd) (hk : fd.length ≤ k) (hsy : ∀ x y, y ∈ adj x → x ∈ adj y) (hn : fs.Nodup) : sE fd = lotOf fs adj f0 := by
  obtain ⟨B1, B2, S⟩ := B
  rw [List.drop_eq_nil_of_le hk, List.take_of_length_le hk] at S
  exact lotOf_is hn S B2 hsy (by simp)
/-- fields beside one -/
def sides (f : Fl) : List Fl := [(f.1 + 1, f.2), (f.1 - 1, f.2), (f.1, f.2 + 1), (f.1, f.2 - 1)]
theorem fm_law_sides_eq (f : Fl) : fm_law_sides [eF f] = ok (.ownL ((sides f).map eF)) := by rfl
theorem sides_nodup (f : Fl) : (sides f).Nodup := by
  obtain ⟨x, y⟩ := f
  simp [sides]
  omega
def adjS (fs : List Fl) (f : Fl) : List Fl := (sides f).filter fun g => decide (g ∈ fs) && decide (f ∈ fs)
theorem adjS_mem (fs : List Fl) (f g : Fl) : g ∈ adjS fs f ↔ g ∈ fs ∧ f ∈ fs ∧ g ∈ sides f := by simp [adjS]; exact ⟨fun h => ⟨h.2.1, h.2.2, h.1⟩, fun h => ⟨h.2.2, h.1, h.2.1⟩⟩
theorem sides_symm (f g : Fl) : g ∈ sides f → f ∈ sides g := by
  obtain ⟨x, y⟩ := f; obtain ⟨z, w⟩ := g
  simp only [sides, List.mem_cons, Prod.mk.injEq, List.not_mem_nil, or_false]; omega
/-- all hang together by sides -/
def Join (fs : List Fl) : Prop := ∀ a ∈ fs, ∀ b ∈ fs, Reach (adjS fs) a b
theorem adjS_symm (fs : List Fl) : ∀ x y, y ∈ adjS fs x → x ∈ adjS fs y := fun x y h => by
  rw [adjS_mem] at h ⊢; exact ⟨h.2.1, h.1, sides_symm _ _ h.2.2⟩
theorem adjS_clo (fs : List Fl) : ∀ x ∈ fs, ∀ y ∈ adjS fs x, y ∈ fs := fun x _ y hy => ((adjS_mem _ _ _).mp hy).1
abbrev rgJ (df : D) (fd : List Fl) (k : Nat) (a3 : Option RV) : Regs := [some (.val df), some (.ownL (fd.map eF)), some (.val (.int k)), a3]
theorem joined_loop {fs : List Fl} {f0 : Fl} (hfs : fs.length ≤ 400) (h0 : f0 ∈ fs) :
    ∃ fd k a3, mWhile (b2 (ltF pLt) (oVar 2) (oE (eL lenF (lCons (oVar 1) (lNil))))) mb_law_joined_1 1000 (rgJ (.list (fs.map eF)) [f0] 0 none) = some (.nx (rgJ (.list (fs.map eF)) fd k a3)) ∧ Bfs fs (adjS fs) f0 k fd ∧ fd.length ≤ k := by
  obtain ⟨⟨k, fd⟩, ρ', h1, ⟨rfl, B⟩, h2⟩ := mWhile_of (c := b2 (ltF pLt) (oVar 2) (oE (eL lenF (lCons (oVar 1) (lNil))))) (b := mb_law_joined_1)
    (fun (st : Nat × List Fl) ρ => ρ = rgJ (.list (fs.map eF)) st.2 st.1 none ∧ Bfs fs (adjS fs) f0 st.1 st.2) (fun st ρ => st.2.length ≤ st.1) (fun st => fs.length - st.1) (by
      rintro ⟨k, fd⟩ ρ ⟨rfl, B⟩
      simp only at B
      by_cases q : k < fd.length
      · right
        have hl := B.len
        have hk : fd[k]? = some fd[k] := List.getElem?_eq_getElem q
        have hh : fd[k] ∈ fs := B.2.2.sub _ (List.getElem_mem q)
        generalize fd[k] = h at hk hh
        have B2 := B.step (adjS_clo fs) (List.Pairwise.filter _ (sides_nodup h)) hk
        have hat : atI (fd.map eF) (k : Int) = some (eF h) := by rw [at_nat, List.getElem?_map, hk]; rfl
        refine ⟨by simp [rgJ, q, pLt], (k + 1, fd ++ (adjS fs h).filter fun a => decide (a ∉ fd)), rgJ (.list (fs.map eF)) (fd ++ (adjS fs h).filter fun a => decide (a ∉ fd)) (k + 1) none, ?_, ⟨rfl, B2⟩, by simp only; omega⟩
        have lc := eLc_of (α := Fl) eF (fun a => decide (a ∈ fs) && decide (a ∉ fd)) eF (t := .one 3) (vs := [3]) (it := iA (oE (eCall 1 fm_law_sides (lCons (o2 idxF (oVar 1) (oVar 2)) (lNil))))) (c := bAnd (b2 inF (oVar 3) (oVar 0)) (b2 notInF (oVar 3) (oVar 1))) (e := vVar 3) (ρ := rgJ (.list (fs.map eF)) fd k none) (sides h) (by simp [rgJ, hat, fm_law_sides_eq]) (by simp [rgJ]) (by simp [sides]) (fun a _ => ⟨_, rfl, by simp [rgJ, ok_ite, ite_and], fun _ => by simp [rgJ]⟩)
        have ef : (adjS fs h).filter (fun a => decide (a ∉ fd)) = (sides h).filter (fun a => decide (a ∈ fs) && decide (a ∉ fd)) := by
          rw [adjS, List.filter_filter]; exact List.filter_congr fun x _ => by simp [hh, Bool.and_comm]
        rw [ef]
        have h4 : ((sides h).filter (fun a => decide (a ∈ fs) && decide (a ∉ fd))).length ≤ 4 := List.length_filter_le _ _
        generalize (sides h).filter (fun a => decide (a ∈ fs) && decide (a ∉ fd)) = nw at lc h4
        have ha : addF (.list (fd.map eF)) (.list (nw.map eF)) = some (.ownL ((fd ++ nw).map eF)) := by simp [addF]; omega
        simp only [mb_law_joined_1, u_sSeq, u_sSet, u_sb, u_e2, u_oE, lc]
        simp [rgJ, ha, -List.map_append]

      · left
        exact ⟨by simp [rgJ, pLt, q], by simp only; omega⟩) 1000 (0, [f0]) (rgJ (.list (fs.map eF)) [f0] 0 none) ⟨rfl, Bfs.start h0⟩ (by simp only; omega)
  exact ⟨fd, k, none, h1, B, h2⟩
theorem Reach.imp {adj adj' : Fl → List Fl} {fs : List Fl} (hc : ∀ x ∈ fs, ∀ y ∈ adj x, y ∈ fs) (h : ∀ x ∈ fs, ∀ y ∈ adj x, y ∈ adj' x) {a b : Fl} (ha : a ∈ fs) (r : Reach adj a b) : Reach adj' a b ∧ b ∈ fs := by
  induction r with
  | refl => exact ⟨.refl, ha⟩
  | step _ h2 ih => exact ⟨ih.1.step (h _ ih.2 _ h2), hc _ ih.2 _ h2⟩
theorem join_iff {fs : List Fl} {f0 : Fl} (h0 : f0 ∈ fs) : Join fs ↔ ∀ x ∈ fs, Reach (adjS fs) f0 x :=
  ⟨fun h x hx => h f0 h0 x hx, fun h a ha b hb => ((h a ha).symm (adjS_symm fs)).trans (h b hb)⟩
theorem fm_law_joined_eq (f0 : Fl) (fs : List Fl) (hfs : (f0 :: fs).length ≤ 400) (hn : (f0 :: fs).Nodup) : ∃ b, fm_law_joined [.list ((f0 :: fs).map eF)] = ok (.val (.bool b)) ∧ (b = true ↔ Join (f0 :: fs)) := by
  have h0 : f0 ∈ f0 :: fs := by simp
  generalize he : f0 :: fs = gs at *
  obtain ⟨fd, k, a3, h1, B, hk⟩ := joined_loop hfs h0
  have h2 := fun x => B.done hk (adjS_symm gs) x
  have hat : (gs.map eF)[0]? = some (eF f0) := by rw [← he]; rfl
  refine ⟨decide (fd.length = gs.length), ?_, ?_⟩
  · simp [rgJ] at h1
    simp [fm_law_joined, m_law_joined, hat, h1]
    have : ((fd.length : Int) = gs.length) ↔ fd.length = gs.length := by omega
    simp [this]
  · rw [decide_eq_true_iff, join_iff h0]
    constructor
    · intro e x hx
      rw [← h2]
      refine Classical.byContradiction fun q => ?_
      have := nodup_len (x :: fd) gs (List.nodup_cons.mpr ⟨q, B.2.2.nd⟩) (by
        intro y hy
        rcases List.mem_cons.mp hy with rfl | hy
        · exact hx
        · exact B.2.2.sub y hy)
      simp only [List.length_cons] at this; omega
    · intro h
      have p : fd.Perm gs := perm_of B.2.2.nd hn fun x => ⟨fun hx => B.2.2.sub x hx, fun hx => (h2 x).mpr (h x hx)⟩
      exact p.length_eq
end TS
/-! A15: the laws' own draws -/
namespace TS
open PySem PySem.Spec PyProof.Rows L2 En EnK

theorem rngD_eq : ∀ (n : Nat) (lo : Int), rngD lo n = (List.range n).map fun i => PyData.int (lo + (i : Nat))
  | 0, _ => rfl
  | n + 1, lo => by
    rw [rngD, rngD_eq n, List.range_succ_eq_map]
    simp only [List.map_cons, List.map_map, List.cons.injEq, Function.comp]
    refine ⟨by simp, List.map_congr_left fun i _ => ?_⟩
    show PyData.int _ = PyData.int _
    congr 1
    simp only [Nat.succ_eq_add_one]; omega
def nI (n : Nat) : D := .int (n : Int)
theorem rng0 (n : Nat) : rngD 0 n = (List.range n).map nI := by
  rw [rngD_eq]; refine List.map_congr_left fun i _ => ?_
  simp [nI]
@[simp] theorem u_mulC (i : Int) : mulC i 48271 = true := by simp [mulC]
@[simp] theorem u_mulC2 (i : Int) : mulC 131 i = true := by simp [mulC]
@[simp] theorem u_divC (i j : Int) : divC i j = (decide (0 < j) && decide (j < 1073741824)) := rfl
@[simp] theorem u_powC : powC 10 18 = true := by decide
@[simp] theorem imInt (xs : List Int) : immA (xs.map PyData.int) = true := by
  induction xs with
  | nil => rfl
  | cons x xs ih => simp [immA, TS.imm, ih]
def cell (sc : List Int) (k : Int) : Int := (sc[k.toNat]?).getD 0
theorem fm_law_cell_eq (sc : List Int) (k : Int) (hk : 0 ≤ k) : fm_law_cell [.list (sc.map .int), .int k] = ok (.val (.int (cell sc k))) := by
  by_cases h : k < sc.length
  · have e : atI (sc.map PyData.int) k = some (.int (cell sc k)) := by
      obtain ⟨n, rfl⟩ := Int.eq_ofNat_of_zero_le hk
      rw [at_nat, List.getElem?_map, cell, Int.toNat_natCast, List.getElem?_eq_getElem (by omega)]
      rfl
    simp [fm_law_cell, m_law_cell, h, pLt, e]
  · have e : cell sc k = 0 := by rw [cell, List.getElem?_eq_none (by omega)]; rfl
    simp [fm_law_cell, m_law_cell, h, pLt, e]
/-- sixty draws -/
def Draw (dr : List Int) : Prop := dr.length = 60 ∧ ∀ d ∈ dr, 0 ≤ d ∧ d < 1000
theorem fm_law_row_eq (sc : List Int) (k : Int) (hk : 0 ≤ k) : ∃ dr, Draw dr ∧ fm_law_row [.list (sc.map .int), .int k] = ok (.ownL (dr.map .int)) := by
  obtain ⟨ρ', h1, c, acc, a4, rfl, h2, h3⟩ := mFor_of (α := Nat) nI (t := .one 4) (m := mb_law_row_1) (fun pre ρ => ∃ (c : Int) (acc : List Int) (a4 : Option RV), ρ = [some (.val (.list (sc.map .int))), some (.val (.int k)), some (.val (.int c)), some (.ownL (acc.map .int)), a4] ∧ acc.length = pre.length ∧ ∀ d ∈ acc, 0 ≤ d ∧ d < 1000) (List.range 60) (by
    rintro pre a post ρ e ⟨c, acc, a4, rfl, h2, h3⟩
    have hlen : pre.length < 60 := by have := congrArg List.length e; simp at this; omega
    have key : ∃ (c' d : Int), 0 ≤ d ∧ d < 1000 ∧ mb_law_row_1 [some (.val (.list (sc.map .int))), some (.val (.int k)), some (.val (.int c)), some (.ownL (acc.map .int)), some (.val (nI a))] = some (.nx [some (.val (.list (sc.map .int))), some (.val (.int k)), some (.val (.int c')), some (.ownL ((acc ++ [d]).map .int)), some (.val (nI a))]) := by
      have hm := fm_law_cell_eq sc ((k + 1 + (a : Int)) % 20) (by omega)
      have l1 : acc.length < 1000 := by omega
      by_cases q : cell sc k < 1000000000000000000
      · refine ⟨(c * 48271 + 131 * a + 7 + cell sc ((k + 1 + a) % 20)) % 2147483647, (c * 48271 + 131 * a + 7 + cell sc ((k + 1 + a) % 20)) % 2147483647 / 11 % 1000, by omega, by omega, ?_⟩
        simp [mb_law_row_1, fm_law_cell_eq _ _ hk, q, pLt, nI, hm, l1]
      · refine ⟨c / 1000, c % 1000, by omega, by omega, ?_⟩
        simp [mb_law_row_1, fm_law_cell_eq _ _ hk, q, pLt, nI, hm, l1]
    obtain ⟨c', d, d1, d2, hb⟩ := key
    exact ⟨_, _, rfl, hb, c', acc ++ [d], _, rfl, by simp [h2], fun x hx => by
      rcases List.mem_append.mp hx with hx | hx
      · exact h3 x hx
      · simp at hx; subst hx; exact ⟨d1, d2⟩⟩) [some (.val (.list (sc.map .int))), some (.val (.int k)), some (.val (.int (cell sc k))), some (.ownL []), none] ⟨cell sc k, [], none, rfl, rfl, by simp⟩
  refine ⟨acc, ⟨by simpa using h2, h3⟩, ?_⟩
  simp [fm_law_row, m_law_row, fm_law_cell_eq _ _ hk, rng0, h1]
end TS
/-! A16: the laws' own fields -/
namespace TS
open PySem PySem.Spec PyProof.Rows L2 En EnK

def dv (dr : List Int) (k : Int) : Int := (dr[k.toNat]?).getD 0
theorem at_draw {dr : List Int} (h : Draw dr) {k : Int} (h0 : 0 ≤ k) (h1 : k < 60) : atI (dr.map PyData.int) k = some (.int (dv dr k)) := by
  obtain ⟨n, rfl⟩ := Int.eq_ofNat_of_zero_le h0
  have hl := h.1
  rw [at_nat, List.getElem?_map, dv, Int.toNat_natCast, List.getElem?_eq_getElem (by omega)]
  rfl
theorem dv_bd {dr : List Int} (h : Draw dr) (k : Int) : 0 ≤ dv dr k ∧ dv dr k < 1000 := by
  unfold dv
  by_cases q : k.toNat < dr.length
  · rw [List.getElem?_eq_getElem q]; exact h.2 _ (List.getElem_mem q)
  · rw [List.getElem?_eq_none (by omega)]; simp
theorem cut_hi {α : Type} (xs : List α) (n : Nat) : cutD xs none (some (n : Int)) = xs.take n := by
  simp only [cutD, HT.sIx_none, HT.sIx_nat, List.drop_zero, Nat.sub_zero]
  by_cases h : n ≤ xs.length
  · rw [Nat.min_eq_left h]
  · rw [Nat.min_eq_right (by omega), List.take_of_length_le (by omega), List.take_of_length_le (by omega)]
@[simp] theorem u_maxF2 (i j : Int) : maxF2 [.int i, .int j] = some (.val (.int (if j > i then j else i))) := rfl
theorem at_mod {α : Type} (xs : List α) (k : Int) (h : 0 < xs.length) : ∃ a ∈ xs, atI xs (k % (xs.length : Int)) = some a := by
  have h1 := Int.emod_nonneg k (show (xs.length : Int) ≠ 0 by omega)
  have h2 := Int.emod_lt_of_pos k (show (0 : Int) < (xs.length : Int) by omega)
  obtain ⟨n, hn⟩ := Int.eq_ofNat_of_zero_le h1
  rw [hn, at_nat]
  have : n < xs.length := by omega
  exact ⟨xs[n], List.getElem_mem this, List.getElem?_eq_getElem this⟩
theorem add_FF (xs ys : List Fl) (h : xs.length + ys.length ≤ 1000000) : addF (.list (xs.map eF)) (.list (ys.map eF)) = some (.ownL ((xs ++ ys).map eF)) := by
  simp [addF, h]
@[simp] theorem ne_F (a b : Fl) : neF (eF a) (eF b) = some (decide (a ≠ b)) := (ne_one a b).trans (by congr)
@[simp] theorem eq_F (a b : Fl) : eqF (eF a) (eF b) = some (decide (a = b)) := (eq_one a b).trans (by congr)
@[simp] theorem ne_B (a b : Br) : neF (eB a) (eB b) = some (decide (a ≠ b)) := (ne_one a b).trans (by congr)
@[simp] theorem eq_B (a b : Br) : eqF (eB a) (eB b) = some (decide (a = b)) := (eq_one a b).trans (by congr)
theorem len_map {α β : Type} (f : α → β) (xs : List α) : (xs.map f).length = xs.length := List.length_map f
/-- within the bounds of drawn fields -/
def B5 (f : Fl) : Prop := 0 ≤ f.1 ∧ f.1 ≤ 5 ∧ 0 ≤ f.2 ∧ f.2 ≤ 5
theorem join_congr {fs gs : List Fl} (h : ∀ x, x ∈ fs ↔ x ∈ gs) : Join fs ↔ Join gs := by
  have e : adjS fs = adjS gs := by funext f; simp only [adjS, h]
  simp only [Join, e, h]
/-- good fields -/
structure GF (m : Nat) (fs : List Fl) : Prop where
  srt : Srt fs
  nd : fs.Nodup
  jn : Join fs
  bd : ∀ f ∈ fs, B5 f
  ne : 1 ≤ fs.length
  le : fs.length ≤ m
theorem GF.of {m : Nat} {fs : List Fl} (hn : fs.Nodup) (hj : Join fs) (hb : ∀ f ∈ fs, B5 f) (h1 : 1 ≤ fs.length) (h2 : fs.length ≤ m) : GF m (sE fs) :=
  ⟨sE_srt _, (sE_perm fs).nodup_iff.mpr hn, (join_congr fun x => (sE_mem fs x)).mpr hj, fun f hf => hb f ((sE_mem fs f).mp hf), by rw [sE_len]; exact h1, by rw [sE_len]; exact h2⟩
theorem join_one (f : Fl) : Join [f] := by
  intro a ha b hb
  simp at ha hb; rw [ha, hb]; exact .refl
theorem join_snoc {fs : List Fl} {a b : Fl} (h : Join fs) (ha : a ∈ fs) (hb : b ∈ sides a) : Join (fs ++ [b]) := by
  have sub : ∀ x y, Reach (adjS fs) x y → Reach (adjS (fs ++ [b])) x y := by
    intro x y r
    induction r with
    | refl => exact .refl
    | step _ h2 ih =>
      refine ih.step ?_
      rw [adjS_mem] at h2 ⊢
      exact ⟨List.mem_append_left _ h2.1, List.mem_append_left _ h2.2.1, h2.2.2⟩
  have ab : Reach (adjS (fs ++ [b])) a b := Reach.refl.step ((adjS_mem _ _ _).mpr ⟨by simp, List.mem_append_left _ ha, hb⟩)
  have all : ∀ x ∈ fs ++ [b], Reach (adjS (fs ++ [b])) a x := by
    intro x hx
    rcases List.mem_append.mp hx with hx | hx
    · exact sub _ _ (h a ha x hx)
    · simp at hx; rw [hx]; exact ab
  intro x hx y hy
  exact ((all x hx).symm (adjS_symm _)).trans (all y hy)
theorem at_map {α β : Type} (f : α → β) (xs : List α) (k : Int) : atI (xs.map f) k = (atI xs k).map f := by
  simp only [atI, List.length_map]
  cases ixN xs.length k with
  | none => rfl
  | some n => simp
theorem at_mod_map {α β : Type} (f : α → β) (xs : List α) (k : Int) (g : α) (h : atI xs k = some g) : atI (xs.map f) k = some (f g) := by rw [at_map, h]; rfl
/-- a rectangle -/
def rect (w h : Nat) : List Fl := (List.range w).flatMap fun (x : Nat) => (List.range h).map fun (y : Nat) => ((x : Int), (y : Int))
theorem rect_nodup (w h : Nat) : (rect w h).Nodup := by
  unfold rect
  induction w with
  | zero => simp
  | succ w ih =>
    rw [List.range_succ, List.flatMap_append, List.nodup_append]
    refine ⟨ih, ?_, ?_⟩
    · simp only [List.flatMap_cons, List.flatMap_nil, List.append_nil]
      refine List.Pairwise.map _ ?_ (List.nodup_range)
      intro a b hab e
      exact hab (by have := (Prod.mk.inj e).2; omega)
    · intro a ha b hb e
      simp only [List.mem_flatMap, List.mem_map, List.mem_range, List.mem_singleton] at ha hb
      obtain ⟨x, hx, y, hy, rfl⟩ := ha
      obtain ⟨x', rfl, y', hy', rfl⟩ := hb
      have := (Prod.mk.inj e).1; omega
theorem rect_mem (w h : Nat) (f : Fl) : f ∈ rect w h ↔ 0 ≤ f.1 ∧ f.1 < w ∧ 0 ≤ f.2 ∧ f.2 < h := by
  obtain ⟨x, y⟩ := f
  simp only [rect, List.mem_flatMap, List.mem_map, List.mem_range, Prod.mk.injEq]
  constructor
  · rintro ⟨a, ha, b, hb, rfl, rfl⟩; omega
  · intro h; exact ⟨x.toNat, by omega, y.toNat, by omega, by omega, by omega⟩
theorem rect_len (w h : Nat) : (rect w h).length = w * h := by
  unfold rect
  induction w with
  | zero => simp
  | succ w ih => rw [List.range_succ, List.flatMap_append, List.length_append, ih]; simp [Nat.succ_mul]
theorem rect_succ (w h : Nat) : rect (w + 1) h = rect w h ++ (List.range h).map fun (y : Nat) => ((w : Int), (y : Int)) := by
  unfold rect; rw [List.range_succ, List.flatMap_append]; simp
abbrev rgF (dr : D) (m w h : Int) (rv : Option RV) (a5 a6 a7 a8 a9 a11 : Option RV) : Regs := [some (.val dr), some (.val (.int m)), some (.val (.int w)), some (.val (.int h)), rv, a5, a6, a7, a8, a9, none, a11]
theorem rect_loop (dr : D) (m : Int) (w h : Nat) (hw : w ≤ 4) (hh : h ≤ 4) : ∃ a5, mFor (.one 5) mb_law_fields_1 (rngD 0 w) (rgF dr m w h (some (.ownL [])) none none none none none none) = some (.nx (rgF dr m w h (some (.ownL ((rect w h).map eF))) a5 none none none none none)) := by
  obtain ⟨ρ', h1, a5, rfl⟩ := mFor_of (α := Nat) nI (t := .one 5) (m := mb_law_fields_1) (fun pre ρ => ∃ a5, ρ = rgF dr m w h (some (.ownL ((rect pre.length h).map eF))) a5 none none none none none) (List.range w) (by
    rintro pre a post ρ e ⟨a5, rfl⟩
    have ha : pre.length = a := by
      have := congrArg (fun l => l[pre.length]?) e
      simp at this
      by_cases q : pre.length < w
      · rw [List.getElem?_range q] at this; simpa using this.symm
      · rw [List.getElem?_eq_none (by simp; omega)] at this; cases this
    have hlt : pre.length < w := by have := congrArg List.length e; simp at this; omega
    refine ⟨_, rgF dr m w h (some (.ownL ((rect (pre ++ [a]).length h).map eF))) (some (.val (nI a))) none none none none none, rfl, ?_, _, rfl⟩
    have lc := eLc_of (α := Nat) nI (fun _ => true) (fun (y : Nat) => eF ((a : Int), (y : Int))) (t := .one 6) (vs := [6]) (it := iR1 (lCons (oVar 3) (lNil))) (c := bYes) (e := vTup (lCons (vVar 5) (lCons (vVar 6) (lNil)))) (ρ := rgF dr m w h (some (.ownL ((rect pre.length h).map eF))) (some (.val (nI a))) none none none none none) (List.range h) (by simp [rgF, rng0]; omega) (by simp [rgF]) (by simp; omega) (fun b _ => ⟨_, rfl, by simp [rgF], fun _ => by simp [rgF, nI, eF]⟩)
    have e2 : rect (pre ++ [a]).length h = rect a h ++ (List.range h).map fun (y : Nat) => ((a : Int), (y : Int)) := by
      rw [List.length_append, List.length_singleton, ha, rect_succ]
    simp only [flt_t] at lc
    have hl : (rect a h).length ≤ 100 := by rw [rect_len]; exact Nat.le_trans (Nat.mul_le_mul (show a ≤ 4 by omega) hh) (by omega)
    have had : addF (.list ((rect a h).map eF)) (.list ((List.range h).map fun (y : Nat) => eF ((a : Int), (y : Int)))) = some (.ownL ((rect (pre ++ [a]).length h).map eF)) := by
      have e3 : ((List.range h).map fun (y : Nat) => eF ((a : Int), (y : Int))) = ((List.range h).map fun (y : Nat) => ((a : Int), (y : Int))).map eF := by rw [List.map_map]; rfl
      rw [e2, e3]; exact add_FF _ _ (by simp; omega)
    rw [ha] at lc ⊢
    have hset : (rgF dr m w h (some (.ownL ((rect a h).map eF))) a5 none none none none none).set 5 (some (.val (nI a))) = rgF dr m w h (some (.ownL ((rect a h).map eF))) (some (.val (nI a))) none none none none none := rfl
    simp only [mb_law_fields_1, u_sSet, u_sb, u_e2, u_oE, hset, lc]
    simp [rgF, had]) (rgF dr m w h (some (.ownL [])) none none none none none none) ⟨none, by simp [rect]⟩
  rw [← rng0] at h1
  exact ⟨a5, by simpa using h1⟩
theorem filter_ne_len {fs : List Fl} {g : Fl} (h : fs.Nodup) (hg : g ∈ fs) : (fs.filter (fun x => decide (x ≠ g))).length + 1 = fs.length := by
  have e : fs.filter (fun x => decide (x ≠ g)) = fs.erase g := by
    rw [h.erase_eq_filter]; exact List.filter_congr fun x _ => by by_cases q : x = g <;> simp [q]
  rw [e, List.length_erase_of_mem hg]
  have := List.length_pos_of_mem hg; omega
theorem rm_loop {dr : List Int} (hd : Draw dr) (m w h : Int) (n : Nat) (hn : n ≤ 2) (fs0 : List Fl) (h0 : fs0.Nodup) (h1 : ∀ f ∈ fs0, B5 f) (h2 : 4 ≤ fs0.length) (h3 : fs0.length ≤ 16) (a5 : Option RV) : ∃ (fs : List Fl) (rv : RV) (a7 a8 a9 : Option RV), mFor (.one 7) mb_law_fields_2 (rngD 0 n) (rgF (.list (dr.map .int)) m w h (some (.ownL (fs0.map eF))) a5 none none none none none) = some (.nx (rgF (.list (dr.map .int)) m w h (some rv) a5 none a7 a8 a9 none)) ∧ rv.dat = .list (fs.map eF) ∧ fs.Nodup ∧ (∀ f ∈ fs, B5 f) ∧ 2 ≤ fs.length ∧ fs.length ≤ 16 := by
  obtain ⟨ρ', h1, fs, rv, a7, a8, a9, rfl, p1, p2, p3, p4, p5⟩ := mFor_of (α := Nat) nI (t := .one 7) (m := mb_law_fields_2) (fun pre ρ => ∃ (fs : List Fl) (rv : RV) (a7 a8 a9 : Option RV), ρ = rgF (.list (dr.map .int)) m w h (some rv) a5 none a7 a8 a9 none ∧ rv.dat = .list (fs.map eF) ∧ fs.Nodup ∧ (∀ f ∈ fs, B5 f) ∧ 4 ≤ fs.length + pre.length ∧ fs.length ≤ 16) (List.range n) (by
    rintro pre a post ρ e ⟨fs, rv, a7, a8, a9, rfl, p1, p2, p3, p4, p5⟩
    have hpl : pre.length < n := by have := congrArg List.length e; simp at this; omega
    have hal : a < n := by
      have : a ∈ List.range n := by rw [← e]; simp
      simpa using this
    have hfl : 0 < (fs.map eF).length := by rw [List.length_map]; omega
    obtain ⟨g, hg, hat⟩ := at_mod fs (dv dr (4 + a)) (by omega)
    have hat' : atI (fs.map eF) (dv dr (4 + a) % (fs.length : Int)) = some (eF g) := by
      have := at_mod_map eF fs _ g hat
      exact this
    have hpos : 0 < fs.length := by omega
    have hdr := at_draw hd (k := 4 + (a : Int)) (by omega) (by omega)
    have lc := eLc_of (α := Fl) eF (fun x => decide (x ≠ g)) eF (t := .one 10) (vs := [10]) (it := iA (vVar 4)) (c := b2 neF (oVar 10) (oVar 8)) (e := vVar 10) (ρ := rgF (.list (dr.map .int)) m w h (some (.val rv.dat)) a5 none (some (.val (nI a))) (some (.val (eF g))) a9 none) fs (by simp [rgF, p1]) (by simp [rgF]) (by omega) (fun b _ => ⟨_, rfl, by simp [rgF], fun _ => by simp [rgF]⟩)
    have le1 := filter_ne_len p2 hg
    have hls : ∀ x ∈ fs.filter (fun x => decide (x ≠ g)), x ∈ fs := fun x hx => (List.mem_filter.mp hx).1
    have hln : (fs.filter (fun x => decide (x ≠ g))).Nodup := List.Pairwise.filter _ p2
    generalize fs.filter (fun x => decide (x ≠ g)) = ls at lc le1 hls hln
    cases ls with
    | nil => simp at le1; omega
    | cons f0 l1 =>
      obtain ⟨b, hb, _⟩ := fm_law_joined_eq f0 l1 (by omega) hln
      generalize hls2 : f0 :: l1 = ls at *
      have hset : frz 4 ((((rgF (.list (dr.map .int)) m w h (some rv) a5 none (some (.val (nI a))) a8 a9 none)).set 8 (some (.val (eF g))))) = rgF (.list (dr.map .int)) m w h (some (.val rv.dat)) a5 none (some (.val (nI a))) (some (.val (eF g))) a9 none := rfl
      have hlen2 : ((fs.map eF).length : Int) = fs.length := by simp
      cases b with
      | true =>
        refine ⟨_, rgF (.list (dr.map .int)) m w h (some (.val (.list (ls.map eF)))) a5 none (some (.val (nI a))) (some (.val (eF g))) (some (.val (.list (ls.map eF)))) none, rfl, ?_, ls, _, _, _, _, rfl, rfl, hln, fun x hx => p3 x (hls x hx), by simp; omega, by omega⟩
        simp only [rgF, nI, p1] at lc
        simp [mb_law_fields_2, rgF, p1, hdr, hat', hpos, nI, lc, hb]
      | false =>
        refine ⟨_, rgF (.list (dr.map .int)) m w h (some (.val (.list (fs.map eF)))) a5 none (some (.val (nI a))) (some (.val (eF g))) (some (.ownL (ls.map eF))) none, rfl, ?_, fs, _, _, _, _, rfl, rfl, p2, p3, by simp; omega, by omega⟩
        simp only [rgF, nI, p1] at lc
        simp [mb_law_fields_2, rgF, p1, hdr, hat', hpos, nI, lc, hb]) (rgF (.list (dr.map .int)) m w h (some (.ownL (fs0.map eF))) a5 none none none none none) ⟨fs0, .ownL (fs0.map eF), none, none, none, rfl, rfl, h0, h1, by simpa using h2, h3⟩
  rw [← rng0] at h1
  simp at p4
  exact ⟨fs, rv, a7, a8, a9, h1, p1, p2, p3, by omega, p5⟩
abbrev rgG (dr : D) (m : Int) (fs : List Fl) (a5 a6 a7 a11 : Option RV) : Regs := [some (.val dr), some (.val (.int m)), none, none, some (.ownL (fs.map eF)), a5, a6, a7, none, none, none, a11]
def gB (f : Fl) : Bool := decide (0 ≤ f.1) && decide (f.1 ≤ 5) && decide (0 ≤ f.2) && decide (f.2 ≤ 5)
theorem grow_loop {dr : List Int} (hd : Draw dr) (m : Int) (n : Nat) (hn : n ≤ 40) : ∃ (fs : List Fl) (a5 a6 a7 a11 : Option RV), mFor (.one 7) mb_law_fields_3 (rngD 0 n) (rgG (.list (dr.map .int)) m [(2, 2)] none none none none) = some (.nx (rgG (.list (dr.map .int)) m fs a5 a6 a7 a11)) ∧ fs.Nodup ∧ Join fs ∧ (∀ f ∈ fs, B5 f) ∧ 1 ≤ fs.length ∧ fs.length ≤ n + 1 := by
  obtain ⟨ρ', h1, fs, a5, a6, a7, a11, rfl, p2, p3, p4, p5, p6⟩ := mFor_of (α := Nat) nI (t := .one 7) (m := mb_law_fields_3) (fun pre ρ => ∃ (fs : List Fl) (a5 a6 a7 a11 : Option RV), ρ = rgG (.list (dr.map .int)) m fs a5 a6 a7 a11 ∧ fs.Nodup ∧ Join fs ∧ (∀ f ∈ fs, B5 f) ∧ 1 ≤ fs.length ∧ fs.length ≤ pre.length + 1) (List.range n) (by
    rintro pre a post ρ e ⟨fs, a5, a6, a7, a11, rfl, p2, p3, p4, p5, p6⟩
    have hpl : pre.length < n := by have := congrArg List.length e; simp at this; omega
    have hal : a < n := by
      have : a ∈ List.range n := by rw [← e]; simp
      simpa using this
    obtain ⟨g, hg, hat⟩ := at_mod fs (dv dr (2 + a)) (by omega)
    have hat' : atI (fs.map eF) (dv dr (2 + a) % (fs.length : Int)) = some (eF g) := at_mod_map eF fs _ g hat
    have hpos : 0 < fs.length := by omega
    have hdr := at_draw hd (k := 2 + (a : Int)) (by omega) (by omega)
    have hdr2 := at_draw hd (k := 15 + (a : Int)) (by omega) (by omega)
    obtain ⟨c, hc, hat2⟩ := at_mod (sides g) (dv dr (15 + a)) (by simp [sides])
    have hat2' : atI ((sides g).map eF) (dv dr (15 + a) % 4) = some (eF c) := at_mod_map eF (sides g) _ c hat2
    have hsd := fm_law_sides_eq g
    have tg : ∀ ρ, tgtM (.tup [5, 6]) (eF c) ρ = some ((ρ.set 5 (some (.val (.int c.1)))).set 6 (some (.val (.int c.2)))) := fun ρ => rfl
    have hin : notInF (.tuple [.int c.1, .int c.2]) (.list (fs.map eF)) = some (decide (c ∉ fs)) := nin_lF fs c
    by_cases q : gB c = true ∧ c ∉ fs
    · refine ⟨_, rgG (.list (dr.map .int)) m (fs ++ [c]) (some (.val (.int c.1))) (some (.val (.int c.2))) (some (.val (nI a))) (some (.val (eF g))), rfl, ?_, fs ++ [c], _, _, _, _, rfl, ?_, join_snoc p3 hg hc, ?_, by simp, by simp; omega⟩
      · have q1 := q.1
        have l1 : fs.length < 1000 := by omega
        simp only [gB, Bool.and_eq_true, decide_eq_true_eq] at q1
        simp [mb_law_fields_3, rgG, hdr, hdr2, hat', hat2', hpos, nI, hsd, tg, q1, q.2, hin, l1, pLe]
        rfl
      · rw [List.nodup_append]; exact ⟨p2, by simp, fun x hx y hy e => q.2 (by simp at hy; rw [← hy, ← e]; exact hx)⟩
      · intro f hf
        rcases List.mem_append.mp hf with hf | hf
        · exact p4 f hf
        · simp at hf; subst hf
          have q1 := q.1
          simp only [gB, Bool.and_eq_true, decide_eq_true_eq] at q1
          exact ⟨q1.1.1.1, q1.1.1.2, q1.1.2, q1.2⟩
    · refine ⟨_, rgG (.list (dr.map .int)) m fs (some (.val (.int c.1))) (some (.val (.int c.2))) (some (.val (nI a))) (some (.val (eF g))), rfl, ?_, fs, _, _, _, _, rfl, p2, p3, p4, p5, by simp; omega⟩
      simp [mb_law_fields_3, rgG, hdr, hdr2, hat', hat2', hpos, nI, hsd, tg, hin, pLe]
      by_cases b1 : 0 ≤ c.1 <;> by_cases b2 : c.1 ≤ 5 <;> by_cases b3 : 0 ≤ c.2 <;> by_cases b4 : c.2 ≤ 5
      case pos =>
        have hm : c ∈ fs := Classical.byContradiction fun z => q ⟨by simp [gB, b1, b2, b3, b4], z⟩
        simp [b1, b2, b3, b4, hm]
      all_goals simp [b1, b2, b3, b4]) (rgG (.list (dr.map .int)) m [(2, 2)] none none none none) ⟨[(2, 2)], none, none, none, none, rfl, by simp, join_one _, by simp [B5], by simp, by simp⟩
  rw [← rng0] at h1
  exact ⟨fs, a5, a6, a7, a11, h1, p2, p3, p4, p5, by simpa using p6⟩
end TS
/-! A17: the laws' own fields, whole -/
namespace TS
open PySem PySem.Spec PyProof.Rows L2 En EnK

theorem int_ite (c : Prop) [Decidable c] (a b : Int) : (if c then PyData.int a else PyData.int b) = PyData.int (if c then a else b) := by split <;> rfl
theorem fm_law_fields_eq {dr : List Int} (hd : Draw dr) (m : Nat) (hm : 1 ≤ m) (hm2 : m ≤ 16) : ∃ fs, GF (max m 6) fs ∧ fm_law_fields [.list (dr.map .int), .int m] = ok (.val (eFs fs)) := by
  have d0 := at_draw hd (k := 0) (by omega) (by omega)
  have d1 := at_draw hd (k := 1) (by omega) (by omega)
  have d2 := at_draw hd (k := 2) (by omega) (by omega)
  have d3 := at_draw hd (k := 3) (by omega) (by omega)
  simp only [at_0, at_1, at_2] at d0 d1 d2
  have b1 := dv_bd hd 1
  have b2 := dv_bd hd 2
  have b3 := dv_bd hd 3
  by_cases q : dv dr 0 % 3 = 0
  · obtain ⟨w, hw, hw2⟩ : ∃ w : Nat, 2 + dv dr 1 % 3 = w ∧ (w = 2 ∨ w = 3 ∨ w = 4) := ⟨(2 + dv dr 1 % 3).toNat, by omega, by omega⟩
    obtain ⟨h, hh, hh2⟩ : ∃ h : Nat, 2 + dv dr 2 % (if (w : Int) < 4 then 3 else 2) = h ∧ (h = 2 ∨ h = 3 ∨ (h = 4 ∧ w < 4)) := by
      by_cases z : (w : Int) < 4
      · rw [if_pos z]; exact ⟨(2 + dv dr 2 % 3).toNat, by omega, by omega⟩
      · rw [if_neg z]; exact ⟨(2 + dv dr 2 % 2).toNat, by omega, by omega⟩
    have hz : (0 : Int) < if (w : Int) < 4 then 3 else 2 := by split <;> omega
    have r1 : (-1000 : Int) ≤ w ∧ (w : Int) < 1000 := by omega
    obtain ⟨t, ht, ht2⟩ : ∃ t : Nat, dv dr 3 % 3 = t ∧ t ≤ 2 := ⟨(dv dr 3 % 3).toNat, by omega, by omega⟩
    have r2 : (-1000 : Int) ≤ t ∧ (t : Int) < 1000 := by omega
    obtain ⟨a5, e1⟩ := rect_loop (.list (dr.map .int)) m w h (by omega) (by omega)
    have hl : 4 ≤ (rect w h).length ∧ (rect w h).length ≤ 16 := by
      rw [rect_len]
      rcases hw2 with rfl | rfl | rfl <;> rcases hh2 with rfl | rfl | ⟨rfl, _⟩ <;> omega
    obtain ⟨fs, rv, a7, a8, a9, e2, p1, p2, p3, p4, p5⟩ := rm_loop hd m w h t ht2 (rect w h) (rect_nodup w h) (fun f hf => by
      rw [rect_mem] at hf
      exact ⟨by omega, by omega, by omega, by omega⟩) hl.1 hl.2 a5
    have hcut : cutD (fs.map eF) none (some (if (6 : Int) > m then 6 else m)) = (fs.take (max m 6)).map eF := by
      have : (if (6 : Int) > m then (6 : Int) else m) = ((max m 6 : Nat) : Int) := by split <;> omega
      rw [this, cut_hi, List.map_take]
    have hlen : (fs.take (max m 6)).length ≤ max m 6 ∧ 1 ≤ (fs.take (max m 6)).length := by rw [List.length_take]; omega
    have hnd : (fs.take (max m 6)).Nodup := p2.sublist (List.take_sublist _ _)
    have hbd : ∀ f ∈ fs.take (max m 6), B5 f := fun f hf => p3 f (List.mem_of_mem_take hf)
    generalize fs.take (max m 6) = gs at *
    cases gs with
    | nil => simp at hlen
    | cons g0 g1 =>
      obtain ⟨b, hb, hj⟩ := fm_law_joined_eq g0 g1 (by omega) hnd
      generalize hg2 : g0 :: g1 = gs at *
      have hs := sort_F gs (by omega)
      have ht3 := tup_F (sE gs) (by rw [sE_len]; omega)
      cases b with
      | true =>
        refine ⟨sE gs, GF.of hnd (hj.mp rfl) hbd hlen.2 hlen.1, ?_⟩
        simp only [rgF] at e1 e2
        simp [fm_law_fields, m_law_fields, d0, d1, d2, d3, q, hw, pLt, ok_ite, int_ite, hh, hz, ht, r1, r2, e1, e2, p1, hcut, hb, hs, ht3]
      | false =>
        refine ⟨[(0, 0)], ⟨by simp [Srt], by simp, join_one _, by simp [B5], by simp, by simp; omega⟩, ?_⟩
        simp only [rgF] at e1 e2
        simp [fm_law_fields, m_law_fields, d0, d1, d2, d3, q, hw, pLt, ok_ite, int_ite, hh, hz, ht, r1, r2, e1, e2, p1, hcut, hb, hs, ht3]
        rfl
  · obtain ⟨n, hn, hn2⟩ : ∃ n : Nat, dv dr 1 % m = n ∧ n < m := by
      have h1 := Int.emod_nonneg (dv dr 1) (show (m : Int) ≠ 0 by omega)
      have h2 := Int.emod_lt_of_pos (dv dr 1) (show (0 : Int) < (m : Int) by omega)
      exact ⟨(dv dr 1 % m).toNat, by omega, by omega⟩
    obtain ⟨fs, a5, a6, a7, a11, e1, p2, p3, p4, p5, p6⟩ := grow_loop hd m n (by omega)
    have hs := sort_F fs (by omega)
    have ht3 := tup_F (sE fs) (by rw [sE_len]; omega)
    have r1 : (-1000 : Int) ≤ n ∧ (n : Int) < 1000 := by omega
    have hpos : 0 < m := by omega
    refine ⟨sE fs, GF.of p2 p3 p4 p5 (by omega), ?_⟩
    have ee : eF (2, 2) = PyData.tuple [.int 2, .int 2] := rfl
    simp only [rgG, List.map_cons, List.map_nil, ee] at e1
    simp [fm_law_fields, m_law_fields, d0, d1, q, hn, pLt, r1, e1, hs, ht3, hpos]
end TS
/-! A18: the laws' own sheet -/
namespace TS
open PySem PySem.Spec PyProof.Rows L2 En EnK

def enP {α : Type} (enc : α → D) (p : α × Nat) : D := .tuple [.int (p.2 : Int), enc p.1]
theorem enD_eq {α : Type} (enc : α → D) : ∀ (xs : List α) (n : Nat), enD n (xs.map enc) = (xs.zipIdx n).map (enP enc)
  | [], _ => rfl
  | x :: xs, n => by simp [enD, enD_eq enc xs, enP]
theorem zipIdx_sub {α : Type} (xs : List α) (p : α × Nat → Bool) : ((xs.zipIdx.filter p).map Prod.fst).Sublist xs := by
  have h : (xs.zipIdx.map Prod.fst) = xs := by simp
  have := (List.filter_sublist (l := xs.zipIdx) (p := p)).map Prod.fst
  rwa [h] at this
@[simp] theorem at_3 {α : Type} (xs : List α) : atI xs 3 = xs[3]? := at_nat xs 3
theorem fm_law_sheet_eq (sc : List Int) (k : Int) (hk : 0 ≤ k) (m : Nat) (hm : 1 ≤ m) (hm2 : m ≤ 16) : ∃ fs ps, GF (max m 6) fs ∧ List.Sublist ps (inner fs) ∧ fm_law_sheet [.list (sc.map .int), .int k, .int m] = ok (.val (eS fs ps)) := by
  obtain ⟨dr, hd, E1⟩ := fm_law_row_eq sc k hk
  obtain ⟨fs, hg, E2⟩ := fm_law_fields_eq hd m hm hm2
  have hle := hg.le
  have hil := inner_len fs
  have d58 := at_draw hd (k := 58) (by omega) (by omega)
  obtain ⟨w, hw, hw2⟩ : ∃ w : Nat, dv dr 58 % 4 = w ∧ (w = 0 ∨ w = 1 ∨ w = 2 ∨ w = 3) := ⟨(dv dr 58 % 4).toNat, by omega, by omega⟩
  have E3 := fm_law_inner_eq fs (by omega) hg.nd
  generalize hp : (fun (q : Br × Nat) => decide (w < 2) || decide (0 < dv dr ((28 + (q.2 : Int)) % 60) % (if w = 2 then 7 else 3))) = p
  have lc := eLc_of (α := Br × Nat) (enP eB) p (fun q => eB q.1) (t := .tup [8, 9]) (vs := [8, 9]) (it := iEn (lCons (vVar 5) (lNil))) (c := (bOr (b2 (ltF pLt) (oVar 6) (oC (.int 2))) (b2 (ltF pGt) (oE (e2 (iF modC fun i j => i % j) (o2 idxF (oVar 3) (oE (e2 (iF modC fun i j => i % j) (oE (e2 addF (oC (.int 28)) (oVar 8))) (oC (.int 60))))) (o2 idxF (oE (eLst (lCons (oC (.int 9)) (lCons (oC (.int 9)) (lCons (oC (.int 7)) (lCons (oC (.int 3)) (lNil))))))) (oVar 6)))) (oC (.int 0))))) (e := vVar 9) (ρ := [some (.val (.list (sc.map .int))), some (.val (.int k)), some (.val (.int m)), some (.ownL (dr.map .int)), some (.val (eFs fs)), some (.val (.list ((inner fs).map eB))), some (.val (.int w)), none, none, none]) (inner fs).zipIdx (by simp [enD_eq]) (by simp) (by simp; omega) (by
    rintro ⟨b, i⟩ _
    have di := at_draw hd (k := (28 + (i : Int)) % 60) (by omega) (by omega)
    refine ⟨_, rfl, ?_, fun _ => by simp⟩
    rw [← hp]
    rcases hw2 with rfl | rfl | rfl | rfl
    · simp [pLt]
    · simp [pLt]
    · simp [pLt, pGt, di]
    · simp [pLt, pGt, di]
      )
  have hsub := zipIdx_sub (inner fs) p
  have hmm : ((inner fs).zipIdx.filter p).map (fun q => eB q.1) = (((inner fs).zipIdx.filter p).map Prod.fst).map eB := by rw [List.map_map]; rfl
  rw [hmm] at lc
  generalize ((inner fs).zipIdx.filter p).map Prod.fst = ps at lc hsub
  have hpl := hsub.length_le
  have ht3 := tup_B ps (by omega)
  refine ⟨fs, ps, hg, hsub, ?_⟩
  simp [fm_law_sheet, m_law_sheet, E1, E2, E3, d58, hw, lc, ht3, eS]
end TS
/-! A19: is_sheet over typed data -/
namespace TS
open PySem PySem.Spec PyProof.Rows L2 En EnK

theorem snoc_ind {α : Type} {P : List α → Prop} (h0 : P []) (h1 : ∀ xs a, P xs → P (xs ++ [a])) : ∀ xs, P xs := by
  suffices H : ∀ rs : List α, P rs.reverse from fun xs => by simpa using H xs.reverse
  intro rs
  induction rs with
  | nil => exact h0
  | cons a rs ih => rw [List.reverse_cons]; exact h1 _ _ ih
theorem heads_sub (adj : Fl → List Fl) : ∀ fs, ∀ h ∈ heads adj fs, h ∈ fs := by
  refine snoc_ind (by simp [heads]) fun xs a ih h hh => ?_
  rw [heads_snoc] at hh
  split at hh
  · exact List.mem_append_left _ (ih h hh)
  · rcases List.mem_append.mp hh with hh | hh
    · exact List.mem_append_left _ (ih h hh)
    · exact List.mem_append_right _ hh
theorem heads_cov (adj : Fl → List Fl) : ∀ fs, ∀ x ∈ fs, ∃ h ∈ heads adj fs, Reach adj h x := by
  refine snoc_ind (by simp) fun xs a ih x hx => ?_
  rw [heads_snoc]
  rcases List.mem_append.mp hx with hx | hx
  · obtain ⟨h, h1, h2⟩ := ih x hx
    split
    · exact ⟨h, h1, h2⟩
    · exact ⟨h, List.mem_append_left _ h1, h2⟩
  · simp at hx; subst hx
    split
    · rename_i q; exact q
    · exact ⟨x, by simp, .refl⟩
theorem heads_pw (adj : Fl → List Fl) : ∀ fs, (heads adj fs).Pairwise fun a b => ¬ Reach adj a b := by
  refine snoc_ind (by simp [heads]) fun xs a ih => ?_
  rw [heads_snoc]
  split
  · exact ih
  · rename_i q
    rw [List.pairwise_append]
    exact ⟨ih, by simp, fun x hx y hy => by simp at hy; subst hy; exact fun r => q ⟨x, hx, r⟩⟩
theorem heads_one {adj : Fl → List Fl} {fs : List Fl} (hne : fs ≠ []) (hsy : ∀ x y, y ∈ adj x → x ∈ adj y) : (heads adj fs).length = 1 ↔ ∀ a ∈ fs, ∀ b ∈ fs, Reach adj a b := by
  constructor
  · intro h
    rw [List.length_eq_one_iff] at h
    obtain ⟨c, hc⟩ := h
    have cov := heads_cov adj fs
    rw [hc] at cov
    intro a ha b hb
    obtain ⟨c1, h1, h2⟩ := cov a ha
    obtain ⟨c2, h3, h4⟩ := cov b hb
    simp at h1 h3; subst h1; subst h3
    exact (h2.symm hsy).trans h4
  · intro h
    have cov := heads_cov adj fs
    have pw := heads_pw adj fs
    have sub := heads_sub adj fs
    match hh : heads adj fs with
    | [] =>
      cases fs with
      | nil => exact absurd rfl hne
      | cons f fs => obtain ⟨c, h1, _⟩ := cov f (by simp); rw [hh] at h1; cases h1
    | [c] => rfl
    | c :: d :: r =>
      rw [hh] at pw sub
      rw [List.pairwise_cons] at pw
      exact absurd (h c (sub c (by simp)) d (sub d (by simp))) (pw.1 d (by simp))
theorem Reach.congr {adj adj' : Fl → List Fl} (h : ∀ x y, y ∈ adj x ↔ y ∈ adj' x) {a b : Fl} : Reach adj a b ↔ Reach adj' a b := by
  constructor
  · intro r
    induction r with
    | refl => exact .refl
    | step _ h2 ih => exact ih.step ((h _ _).mp h2)
  · intro r
    induction r with
    | refl => exact .refl
    | step _ h2 ih => exact ih.step ((h _ _).mpr h2)
theorem adj_inner (fs : List Fl) (x y : Fl) : y ∈ adjL (inner fs) x ↔ y ∈ adjS fs x := by
  rw [adjL_mem, adjS_mem]
  constructor
  · rintro ⟨b, hb, h⟩
    rw [inner_mem] at hb
    obtain ⟨w, u, v⟩ := b
    rcases h with ⟨rfl, rfl⟩ | ⟨rfl, rfl⟩
    · refine ⟨hb.2, hb.1, ?_⟩
      cases w <;> simp [atA, atZ, sides]
    · refine ⟨hb.1, hb.2, ?_⟩
      cases w <;> simp [atA, atZ, sides] <;> omega
  · rintro ⟨h1, h2, h3⟩
    obtain ⟨u, v⟩ := x
    simp only [sides, List.mem_cons, List.not_mem_nil, or_false] at h3
    rcases h3 with rfl | rfl | rfl | rfl
    · exact ⟨(true, u, v), (inner_mem _ _).mpr ⟨h2, h1⟩, .inl ⟨rfl, rfl⟩⟩
    · exact ⟨(true, u - 1, v), (inner_mem _ _).mpr ⟨h1, by simpa [atZ] using h2⟩, .inr ⟨by simp [atZ], rfl⟩⟩
    · exact ⟨(false, u, v), (inner_mem _ _).mpr ⟨h2, h1⟩, .inl ⟨rfl, rfl⟩⟩
    · exact ⟨(false, u, v - 1), (inner_mem _ _).mpr ⟨h1, by simpa [atZ] using h2⟩, .inr ⟨by simp [atZ], rfl⟩⟩
theorem join_inner (fs : List Fl) : Join fs ↔ ∀ a ∈ fs, ∀ b ∈ fs, Reach (adjL (inner fs)) a b := by
  simp only [Join, Reach.congr (adj_inner fs)]
theorem rise_iff {α : Type} [DecidableEq α] [En α] [Ord α] : ∀ xs : List α, rise xs = true ↔ Srt xs ∧ xs.Nodup
  | [] => by simp [rise, Srt]
  | [a] => by simp [rise, Srt]
  | a :: b :: xs => by
    rw [rise, Bool.and_eq_true, rise_iff (b :: xs)]
    simp only [Srt, List.nodup_cons, List.pairwise_cons] at *
    constructor
    · rintro ⟨h1, ⟨h2, h3⟩, h4, h5⟩
      have hab : leE a b = true := by
        have := Ord.tot a b
        cases q : leE b a
        · rw [q] at this; simpa using this
        · rw [q] at h1; cases h1
      have hba : leE b a ≠ true := fun z => by rw [z] at h1; cases h1
      have hall : ∀ c ∈ xs, leE a c = true := fun c hc => Ord.tr a b c hab (h2 c hc)
      refine ⟨⟨fun c hc => ?_, h2, h3⟩, ?_, h4, h5⟩
      · rcases List.mem_cons.mp hc with rfl | hc
        · exact hab
        · exact hall c hc
      · intro hm
        rcases List.mem_cons.mp hm with rfl | hm
        · exact hba hab
        · exact hba (h2 a hm)
    · rintro ⟨⟨h1, h2, h3⟩, h4, h5, h6⟩
      refine ⟨?_, ⟨h2, h3⟩, h5, h6⟩
      cases q : leE b a
      · rfl
      · exact absurd (Ord.anti a b (h1 b (by simp)) q) fun e => h4 (by simp [e])
/-- a good sheet -/
structure Gd (fs : List Fl) (ps : List Br) : Prop where
  fr : rise fs = true
  ne : 1 ≤ fs.length
  le : fs.length ≤ 16
  bd : ∀ f ∈ fs, inn f.1 = true ∧ inn f.2 = true
  jn : Join fs
  pr : rise ps = true
  sub : ∀ b ∈ ps, b ∈ inner fs
theorem Gd.nd {fs : List Fl} {ps : List Br} (g : Gd fs ps) : fs.Nodup := ((rise_iff _).mp g.fr).2
theorem Gd.pnd {fs : List Fl} {ps : List Br} (g : Gd fs ps) : ps.Nodup := ((rise_iff _).mp g.pr).2
theorem Gd.srt {fs : List Fl} {ps : List Br} (g : Gd fs ps) : Srt fs := ((rise_iff _).mp g.fr).1
theorem Gd.psrt {fs : List Fl} {ps : List Br} (g : Gd fs ps) : Srt ps := ((rise_iff _).mp g.pr).1
theorem Gd.plen {fs : List Fl} {ps : List Br} (g : Gd fs ps) : ps.length ≤ 32 := by
  have h1 := nodup_len ps (inner fs) g.pnd g.sub
  have h2 := inner_len fs
  have := g.le
  omega
theorem inner_srt (fs : List Fl) : Srt (inner fs) := sE_srt _
theorem GF.gd {m : Nat} {fs : List Fl} {ps : List Br} (g : GF m fs) (hm : m ≤ 16) (hs : List.Sublist ps (inner fs)) : Gd fs ps where
  fr := (rise_iff _).mpr ⟨g.srt, g.nd⟩
  ne := g.ne
  le := Nat.le_trans g.le hm
  bd f hf := by
    have := g.bd f hf
    simp only [B5] at this
    simp only [inn, Bool.and_eq_true, decide_eq_true_eq]; omega
  jn := g.jn
  pr := (rise_iff _).mpr ⟨(inner_srt fs).sublist hs, (inner_nodup fs g.nd).sublist hs⟩
  sub b hb := hs.subset hb
end TS
/-! A20: is_sheet, looks -/
namespace TS
open PySem PySem.Spec PyProof.Rows L2 En EnK

@[simp] theorem is_tFs (fs : List Fl) : isF "tuple" (eFs fs) = some true := is_tt _
@[simp] theorem is_tBs (fs : List Br) : isF "tuple" (eBs fs) = some true := is_tt _
@[simp] theorem is_tS (fs : List Fl) (ps : List Br) : isF "tuple" (eS fs ps) = some true := is_tt _
@[simp] theorem len_S (fs : List Fl) (ps : List Br) : lenF [eS fs ps] = some (.val (.int 2)) := rfl
@[simp] theorem len_Fs (fs : List Fl) : lenF [eFs fs] = some (.val (.int fs.length)) := by simp [eFs]
@[simp] theorem len_Bs (fs : List Br) : lenF [eBs fs] = some (.val (.int fs.length)) := by simp [eBs]
@[simp] theorem ix_S0 (fs : List Fl) (ps : List Br) : idxF (eS fs ps) (.int 0) = some (eFs fs) := rfl
@[simp] theorem ix_S1 (fs : List Fl) (ps : List Br) : idxF (eS fs ps) (.int 1) = some (eBs ps) := rfl
@[simp] theorem it_Fs (fs : List Fl) : itF (eFs fs) = some (fs.map eF) := rfl
@[simp] theorem it_Bs (fs : List Br) : itF (eBs fs) = some (fs.map eB) := rfl
theorem filter_emp {α : Type} (xs : List α) (p : α → Bool) : (xs.filter p).isEmpty = decide (∀ x ∈ xs, p x = false) := by
  rw [Bool.eq_iff_iff]; simp [List.filter_eq_nil_iff]
theorem fm_is_sheet_eq (fs : List Fl) (ps : List Br) (h1 : fs.length ≤ 400) (h2 : ps.length ≤ 400) : ∃ b, fm_is_sheet [eS fs ps] = ok (.val (.bool b)) ∧ (b = true ↔ Gd fs ps) := by
  have lcF := eLc_of (α := Fl) eF (fun f => !(inn f.1 && inn f.2)) eF (t := .one 1) (vs := [1]) (it := iA (o2 idxF (vVar 0) (oC (.int 0)))) (c := bNot (bT (oE (eCall 1 fm_is_field (lCons (oVar 1) lNil))))) (e := vVar 1) (ρ := [some (.val (eS fs ps)), none, none]) fs (by simp) (by simp) (by omega) (fun f _ => ⟨_, rfl, by simp [fm_is_field_eq], fun _ => by simp⟩)
  have lcB := eLc_of (α := Br) eB (fun f => !okB f) eB (t := .one 1) (vs := [1]) (it := iA (o2 idxF (vVar 0) (oC (.int 1)))) (c := bNot (bT (oE (eCall 1 fm_is_border (lCons (oVar 1) lNil))))) (e := vVar 1) (ρ := [some (.val (eS fs ps)), none, none]) ps (by simp) (by simp) (by omega) (fun f _ => ⟨_, rfl, by simp [fm_is_border_eq], fun _ => by simp⟩)
  have lcI := eLc_of (α := Br) eB (fun f => decide (f ∉ inner fs)) eB (t := .one 1) (vs := [1]) (it := iA (o2 idxF (vVar 0) (oC (.int 1)))) (c := b2 notInF (oVar 1) (oVar 2)) (e := vVar 1) (ρ := [some (.val (eS fs ps)), none, some (.ownL ((inner fs).map eB))]) ps (by simp) (by simp) (by omega) (fun f _ => ⟨_, rfl, by simp, fun _ => by simp⟩)
  have r1 : fm_rises [eFs fs] = ok (.val (.bool (rise fs))) := fm_rises_F fs (by omega)
  have r2 : fm_rises [eBs ps] = ok (.val (.bool (rise ps))) := fm_rises_B ps (by omega)
  have hemp : ∀ {α : Type} (f : α → D) (xs : List α), (xs.map f).isEmpty = xs.isEmpty := fun f xs => by cases xs <;> rfl
  generalize hF : fs.filter (fun f => !(inn f.1 && inn f.2)) = gF at lcF
  generalize hB : ps.filter (fun f => !okB f) = gB at lcB
  generalize hI : ps.filter (fun f => decide (f ∉ inner fs)) = gI at lcI
  by_cases c1 : 1 ≤ fs.length ∧ fs.length ≤ 16
  case neg => 
    refine ⟨false, ?_, by simp; exact fun g => c1 ⟨g.ne, g.le⟩⟩
    have c1' : (fs.length : Int) < 1 ∨ 16 < (fs.length : Int) := by omega
    simp [fm_is_sheet, m_is_sheet, pLe, ok_ite, c1']
  have c1' : ¬ ((fs.length : Int) < 1 ∨ 16 < (fs.length : Int)) := by omega
  by_cases c2 : gF = []
  case neg =>
    refine ⟨false, ?_, by
      simp; intro g; refine c2 ?_
      rw [← hF, List.filter_eq_nil_iff]
      intro f hf; have := g.bd f hf; simp [this]⟩
    simp [fm_is_sheet, m_is_sheet, pLe, ok_ite, c1', lcF, c2]
  by_cases c3 : rise fs = true
  case neg =>
    refine ⟨false, ?_, by simp; exact fun g => c3 g.fr⟩
    simp [fm_is_sheet, m_is_sheet, pLe, ok_ite, c1', lcF, c2, r1, c3]
  by_cases c4 : gB = []
  case neg =>
    refine ⟨false, ?_, by
      simp; intro g; refine c4 ?_
      rw [← hB, List.filter_eq_nil_iff]
      intro f hf
      have h3 := g.bd _ ((inner_mem _ _).mp (g.sub f hf)).1
      have : okB f = true := by simpa [okB, atA] using h3
      simp [this]⟩
    simp [fm_is_sheet, m_is_sheet, pLe, ok_ite, c1', lcF, c2, r1, c3, lcB, c4]
  by_cases c5 : rise ps = true
  case neg =>
    refine ⟨false, ?_, by simp; exact fun g => c5 g.pr⟩
    simp [fm_is_sheet, m_is_sheet, pLe, ok_ite, c1', lcF, c2, r1, c3, lcB, c4, r2, c5]
  have hb := fm_borders_of_t fs (by omega)
  have hnd := ((rise_iff _).mp c3).2
  have hil := inner_len fs
  by_cases c6 : gI = []
  case neg =>
    refine ⟨false, ?_, by
      simp; intro g; refine c6 ?_
      rw [← hI, List.filter_eq_nil_iff]
      intro f hf; have := g.sub f hf; simp [this]⟩
    simp [fm_is_sheet, m_is_sheet, pLe, ok_ite, c1', lcF, c2, r1, c3, lcB, c4, r2, c5, hb, lcI, c6]
  have hp := fm_parts_of_g (eFs fs) (.list ((inner fs).map eB)) fs (inner fs) rfl rfl (by omega) (by omega) (fun b hb => (inner_mem _ _).mp hb) hnd
  refine ⟨decide ((lots fs (adjL (inner fs))).length = 1), ?_, ?_⟩
  · have hi : ∀ ls : List (List Fl), immA (ls.map eFs) = true := fun ls => by
      induction ls with
      | nil => rfl
      | cons l ls ih => simp [immA, ih]
    simp [fm_is_sheet, m_is_sheet, pLe, ok_ite, c1', lcF, c2, r1, c3, lcB, c4, r2, c5, hb, lcI, c6, hp, hi]
    have hc : ∀ n : Nat, ((n : Int) = 1) ↔ n = 1 := fun n => by omega
    simp only [hc]
  · rw [decide_eq_true_iff]
    have hne : fs ≠ [] := fun e => by rw [e] at c1; simp at c1
    rw [lots, List.length_map, heads_one hne (adjL_symm _), ← join_inner]
    constructor
    · intro j
      refine ⟨c3, c1.1, c1.2, ?_, j, c5, ?_⟩
      · intro f hf
        rw [c2, List.filter_eq_nil_iff] at hF
        have := hF f hf
        simpa using this
      · intro b hb
        rw [c6, List.filter_eq_nil_iff] at hI
        have := hI b hb
        simpa using this
    · exact fun g => g.jn
abbrev xc {α : Type} (c : String) : ER α := some (.inr ⟨c, none⟩)
@[simp] theorem eb_xc {α β : Type} (x : Exc) (f : α → ER β) : eb (some (.inr x)) f = some (.inr x) := rfl
theorem fm_look_ok {fs : List Fl} {ps : List Br} (g : Gd fs ps) : fm_look [eS fs ps] = ok (.val .none) := by
  obtain ⟨b, h, hb⟩ := fm_is_sheet_eq fs ps (by have := g.le; omega) (by have := g.plen; omega)
  rw [hb.mpr g] at h
  simp [fm_look, m_look, h]
theorem fm_look_no {fs : List Fl} {ps : List Br} (h1 : fs.length ≤ 400) (h2 : ps.length ≤ 400) (g : ¬ Gd fs ps) : fm_look [eS fs ps] = xc "BadSheet" := by
  obtain ⟨b, h, hb⟩ := fm_is_sheet_eq fs ps h1 h2
  have : b = false := by cases b; rfl; exact absurd (hb.mp rfl) g
  rw [this] at h
  simp [fm_look, m_look, h]
theorem inner_okB {fs : List Fl} {ps : List Br} (g : Gd fs ps) {b : Br} (h : b ∈ inner fs) : okB b = true := by
  have := g.bd _ ((inner_mem _ _).mp h).1
  simpa [okB, atA] using this
/-- torn borders -/
def Tn (ps tn : List Br) : Prop := rise tn = true ∧ ∀ b ∈ tn, b ∈ ps
theorem Tn.len {fs : List Fl} {ps tn : List Br} (g : Gd fs ps) (h : Tn ps tn) : tn.length ≤ 32 := by
  have h1 := nodup_len tn ps ((rise_iff _).mp h.1).2 h.2
  have := g.plen; omega
theorem fm_is_torn_eq {fs : List Fl} {ps : List Br} (g : Gd fs ps) (tn : List Br) (ht : tn.length ≤ 900) : ∃ b, fm_is_torn [eS fs ps, eBs tn] = ok (.val (.bool b)) ∧ (b = true ↔ Tn ps tn) := by
  have lcB := eLc_of (α := Br) eB (fun f => !okB f) eB (t := .one 2) (vs := [2]) (it := iA (vVar 1)) (c := bNot (bT (oE (eCall 1 fm_is_border (lCons (oVar 2) lNil))))) (e := vVar 2) (ρ := [some (.val (eS fs ps)), some (.val (eBs tn)), none]) tn (by simp) (by simp) (by omega) (fun f _ => ⟨_, rfl, by simp [fm_is_border_eq], fun _ => by simp⟩)
  have lcI := eLc_of (α := Br) eB (fun f => decide (f ∉ ps)) eB (t := .one 2) (vs := [2]) (it := iA (vVar 1)) (c := b2 notInF (oVar 2) (o2 idxF (oVar 0) (oC (.int 1)))) (e := vVar 2) (ρ := [some (.val (eS fs ps)), some (.val (eBs tn)), none]) tn (by simp) (by simp) (by omega) (fun f _ => ⟨_, rfl, by simp [eBs], fun _ => by simp⟩)
  have r2 : fm_rises [eBs tn] = ok (.val (.bool (rise tn))) := fm_rises_B tn (by omega)
  generalize hB : tn.filter (fun f => !okB f) = gB at lcB
  generalize hI : tn.filter (fun f => decide (f ∉ ps)) = gI at lcI
  by_cases c4 : gB = []
  case neg =>
    refine ⟨false, ?_, by
      simp; intro z; refine c4 ?_
      rw [← hB, List.filter_eq_nil_iff]
      intro f hf
      have := inner_okB g (g.sub f (z.2 f hf))
      simp [this]⟩
    simp [fm_is_torn, m_is_torn, ok_ite, lcB, c4]
  by_cases c5 : rise tn = true
  case neg =>
    refine ⟨false, ?_, by simp; exact fun z => c5 z.1⟩
    simp [fm_is_torn, m_is_torn, ok_ite, lcB, c4, r2, c5]
  refine ⟨gI.isEmpty, ?_, ?_⟩
  · simp [fm_is_torn, m_is_torn, ok_ite, lcB, c4, r2, c5, lcI]
  · rw [List.isEmpty_iff, ← hI, List.filter_eq_nil_iff]
    simp only [decide_not, Bool.not_eq_true', decide_eq_false_iff_not, Classical.not_not]
    exact ⟨fun h => ⟨c5, fun b hb => h b hb⟩, fun h b hb => h.2 b hb⟩
theorem fm_look_torn_ok {fs : List Fl} {ps tn : List Br} (g : Gd fs ps) (t : Tn ps tn) : fm_look_torn [eS fs ps, eBs tn] = ok (.val .none) := by
  obtain ⟨b, h, hb⟩ := fm_is_torn_eq g tn (by have := t.len g; omega)
  rw [hb.mpr t] at h
  simp [fm_look_torn, m_look_torn, fm_look_ok g, h]
theorem fm_look_torn_no {fs : List Fl} {ps tn : List Br} (g : Gd fs ps) (hl : tn.length ≤ 900) (t : ¬ Tn ps tn) : fm_look_torn [eS fs ps, eBs tn] = xc "BadTorn" := by
  obtain ⟨b, h, hb⟩ := fm_is_torn_eq g tn hl
  have : b = false := by cases b; rfl; exact absurd (hb.mp rfl) t
  rw [this] at h
  simp [fm_look_torn, m_look_torn, fm_look_ok g, h]
theorem fm_look_border_eq {fs : List Fl} {ps : List Br} (g : Gd fs ps) (b : Br) : fm_look_border [eS fs ps, eB b] = if b ∈ inner fs then ok (.val .none) else xc "BadBorder" := by
  have hb := fm_borders_of_t fs (by have := g.le; omega)
  by_cases q : b ∈ inner fs
  · simp [fm_look_border, m_look_border, fm_is_border_eq, inner_okB g q, hb, q, ok_ite]
  · by_cases o : okB b = true
    · simp [fm_look_border, m_look_border, fm_is_border_eq, hb, q, o, ok_ite]
    · simp [fm_look_border, m_look_border, fm_is_border_eq, q, o, ok_ite]
end TS
/-! A21: all tears -/
namespace TS
open PySem PySem.Spec PyProof.Rows L2 En EnK

theorem depB (xs : List Br) : PyData.depthAll (xs.map eB) ≤ 4 := by
  induction xs with
  | nil => simp [PyData.depthAll]
  | cons x xs ih =>
    simp only [List.map_cons, PyData.depthAll]
    have : (eB x).depth ≤ 4 := by simp [eB, PyData.depth, PyData.depthAll]
    omega
theorem depF (xs : List Fl) : PyData.depthAll (xs.map eF) ≤ 4 := by
  induction xs with
  | nil => simp [PyData.depthAll]
  | cons x xs ih =>
    simp only [List.map_cons, PyData.depthAll]
    have : (eF x).depth ≤ 4 := by simp [eF, PyData.depth, PyData.depthAll]
    omega
theorem alkAll {α : Type} [DecidableEq α] [En α] : ∀ xs ys : List α, W.alikeAll (xs.map en) (ys.map en) = true
  | [], _ => by simp [W.alikeAll]
  | _ :: _, [] => by simp [W.alikeAll]
  | x :: xs, y :: ys => by simp [W.alikeAll, alk, alkAll xs ys]
theorem nkeysAll {α : Type} [DecidableEq α] [EnK α] : ∀ xs : List α, nkeys (xs.map en) = some (xs.map ks)
  | [] => rfl
  | x :: xs => by simp [nkeys, nkey_en, nkeysAll xs]
theorem map_inj' {α β : Type} (f : α → β) (h : ∀ a b, f a = f b → a = b) : ∀ xs ys : List α, xs.map f = ys.map f → xs = ys
  | [], [], _ => rfl
  | [], _ :: _, e => by cases e
  | _ :: _, [], e => by cases e
  | x :: xs, y :: ys, e => by
    simp only [List.map_cons, List.cons.injEq] at e
    rw [h x y e.1, map_inj' f h xs ys e.2]
theorem ksB_dep (xs : List Br) : NestedKey.depthAll (xs.map EnK.ks) ≤ 4 := by
  induction xs with
  | nil => simp [NestedKey.depthAll]
  | cons x xs ih =>
    simp only [List.map_cons, NestedKey.depthAll]
    have : (EnK.ks x : NK).depth ≤ 4 := by simp [EnK.ks, NestedKey.depth, NestedKey.depthAll]
    omega
theorem ksF_dep (xs : List Fl) : NestedKey.depthAll (xs.map EnK.ks) ≤ 4 := by
  induction xs with
  | nil => simp [NestedKey.depthAll]
  | cons x xs ih =>
    simp only [List.map_cons, NestedKey.depthAll]
    have : (EnK.ks x : NK).depth ≤ 4 := by simp [EnK.ks, NestedKey.depth, NestedKey.depthAll]
    omega
instance : EnK (List Br) where
  en := eBs
  eqv a b := by
    show PyData.eqv (.tuple (a.map en)) (.tuple (b.map en)) = _
    rw [PyData.eqv, eqvAll_map]
  lay a := by
    show (PyData.tuple (a.map en)).canLay0 = true
    rw [PyData.canLay0, layAll]
  dep a := by
    have := depB a
    simp only [eBs, PyData.depth]; omega
  imm a := by simp
  alk a b := by
    show W.alike (.tuple (a.map en)) (.tuple (b.map en)) = true
    rw [W.alike, alkAll]
  ks a := .tup (a.map EnK.ks)
  kof a := by
    have h : nkey (.tuple (a.map en)) = some (.tup (a.map EnK.ks)) := by rw [nkey, nkeysAll]; rfl
    show kOf (.tuple (a.map en)) = _
    simp only [kOf, h]
    have := ksB_dep a
    rw [if_pos]
    simp only [NestedKey.depth]; omega
  inj a b h := by
    injection h with h
    exact map_inj' _ EnK.inj a b h
instance : EnK (List Fl) where
  en := eFs
  eqv a b := by
    show PyData.eqv (.tuple (a.map en)) (.tuple (b.map en)) = _
    rw [PyData.eqv, eqvAll_map]
  lay a := by
    show (PyData.tuple (a.map en)).canLay0 = true
    rw [PyData.canLay0, layAll]
  dep a := by
    have := depF a
    simp only [eFs, PyData.depth]; omega
  imm a := by simp
  alk a b := by
    show W.alike (.tuple (a.map en)) (.tuple (b.map en)) = true
    rw [W.alike, alkAll]
  ks a := .tup (a.map EnK.ks)
  kof a := by
    have h : nkey (.tuple (a.map en)) = some (.tup (a.map EnK.ks)) := by rw [nkey, nkeysAll]; rfl
    show kOf (.tuple (a.map en)) = _
    simp only [kOf, h]
    have := ksF_dep a
    rw [if_pos]
    simp only [NestedKey.depth]; omega
  inj a b h := by
    injection h with h
    exact map_inj' _ EnK.inj a b h
@[simp] theorem notN_Bs (t : List Br) : notNF (eBs t) .none = some true := rfl
@[simp] theorem notN_N : notNF .none .none = some false := rfl
@[simp] theorem isN_Bs (t : List Br) : isNF (eBs t) .none = some false := rfl
@[simp] theorem i_Bss (xs : List (List Br)) : immA (xs.map eBs) = true := immAll xs
@[simp] theorem i_Fss (xs : List (List Fl)) : immA (xs.map eFs) = true := immAll xs
@[simp] theorem i_kvT {α : Type} [DecidableEq α] [EnK α] (xs : List α) : immA ((kvT xs).map (fun x => x.2)) = true := by
  induction xs with
  | nil => rfl
  | cons x xs ih => simp only [kvT, List.map_cons, immA, TS.imm, Bool.true_and] at ih ⊢; exact ih
theorem notN_oT (o : Option (List Br)) : notNF (oT o) .none = some o.isSome := by cases o <;> rfl
theorem addT_snoc {α : Type} [DecidableEq α] (acc xs : List α) (a : α) : addT acc (xs ++ [a]) = if a ∈ addT acc xs then addT acc xs else addT acc xs ++ [a] := by
  rw [addT, List.foldl_append]; rfl
theorem dPut_addT {α : Type} [DecidableEq α] [EnK α] (xs : List α) (a : α) : dPut (kvT (addT [] xs)) (EnK.ks a) (en a) (.bool true) = kvT (addT [] (xs ++ [a])) := by rw [addT_snoc, dPut_kvT]
theorem put_T (xs : List (List Br)) (a : List Br) : dPut (kvT (addT [] xs)) (EnK.ks a) (eBs a) (.bool true) = kvT (addT [] (xs ++ [a])) := dPut_addT xs a
theorem kof_T (f : List Br) : kOf (eBs f) = some (EnK.ks f) := EnK.kof f
/-- what tears there are, one by one -/
def tearsU (h ps : List Br) : List (List Br) := addT [] (ps.filterMap (tear h ps))
/-- all tears that can be made -/
def tears (h ps : List Br) : List (List Br) := sE (tearsU h ps)
theorem filterMap_snoc {α β : Type} (f : α → Option β) (xs : List α) (a : α) : (xs ++ [a]).filterMap f = xs.filterMap f ++ (f a).toList := by
  rw [List.filterMap_append]
  cases h : f a <;> simp [h]
theorem tears_mem (h ps : List Br) (t : List Br) : t ∈ tears h ps ↔ ∃ b ∈ ps, tear h ps b = some t := by
  rw [tears, sE_mem, tearsU, addT_mem]; simp
theorem tearsU_len (h ps : List Br) : (tearsU h ps).length ≤ ps.length := by
  have h1 := addT_len (ps.filterMap (tear h ps)) []
  have h2 := List.length_filterMap_le (tear h ps) ps
  simp only [List.length_nil] at h1
  unfold tearsU; omega
theorem tears_len (h ps : List Br) : (tears h ps).length ≤ ps.length := by rw [tears, sE_len]; exact tearsU_len h ps
theorem tears_srt (h ps : List Br) : Srt (tears h ps) := sE_srt _
theorem tears_nodup (h ps : List Br) : (tears h ps).Nodup := (sE_perm _).nodup_iff.mpr (addT_nodup _ _ (by simp))
theorem line_self (h : List Br) (b : Br) : b ∈ line h b := by rw [line, sE_mem]; simp
theorem tear_line {h ps : List Br} {b : Br} {t : List Br} (e : tear h ps b = some t) : t = line h b ∧ b ∈ h ∧ ∀ x ∈ t, x ∈ ps := by
  unfold tear at e
  split at e
  · rename_i q; cases e; exact ⟨rfl, q.1, q.2⟩
  · cases e
theorem tears_ne {h ps : List Br} {t : List Br} (ht : t ∈ tears h ps) : t ≠ [] := by
  obtain ⟨b, _, e⟩ := (tears_mem _ _ _).mp ht
  rw [(tear_line e).1]
  exact fun z => by have := line_self h b; rw [z] at this; cases this
theorem tupNE_T {t : List Br} (h : t ≠ []) : tupNE (eBs t) = true := by
  cases t with
  | nil => exact absurd rfl h
  | cons b t => rfl
theorem fm_tears_of_g (d e : D) (h ps : List Br) (hd : ∀ b : Br, notInF (eB b) d = some (decide (b ∉ h))) (he : ∀ b : Br, notInF (eB b) e = some (decide (b ∉ ps))) (hi : itF e = some (ps.map eB)) (hb : BdB h) (hl : ps.length ≤ 900) : fm_tears_of [d, e] = ok (.ownL ((tears h ps).map eBs)) := by
  obtain ⟨ρ', h1, a3, a4, rfl⟩ := mFor_of (α := Br) eB (t := .one 3) (m := mb_tears_of_1) (fun pre ρ => ∃ a3 a4, ρ = [some (.val d), some (.val e), some (.ownD (kvT (addT [] (pre.filterMap (tear h ps))))), a3, a4]) ps (by
    rintro pre a post ρ ee ⟨a3, a4, rfl⟩
    refine ⟨_, [some (.val d), some (.val e), some (.ownD (kvT (addT [] ((pre ++ [a]).filterMap (tear h ps))))), some (.val (eB a)), some (.val (oT (tear h ps a)))], rfl, ?_, _, _, rfl⟩
    have ht := fm_tear_at_g d e h ps a hd he hb
    have hlen : (kvT (addT [] (pre.filterMap (tear h ps)))).length < 1000 := by
      have h1 := addT_len (pre.filterMap (tear h ps)) []
      have h2 := List.length_filterMap_le (tear h ps) pre
      have h3 : pre.length ≤ ps.length := by rw [← ee]; simp
      simp only [List.length_nil] at h1
      simp only [kvT, List.length_map]; omega
    rw [filterMap_snoc]
    cases q : tear h ps a with
    | none =>
      rw [q] at ht
      simp [mb_tears_of_1, ht, oT]
    | some t =>
      rw [q] at ht
      have hp := put_T (pre.filterMap (tear h ps)) t
      have hlen2 : (addT [] (pre.filterMap (tear h ps))).length < 1000 := by simpa [kvT] using hlen
      simp [mb_tears_of_1, ht, oT, kof_T, hp, hlen, hlen2]) [some (.val d), some (.val e), some (.ownD []), none, none] ⟨none, none, by simp [addT, kvT]⟩
  have hl2 := tearsU_len h ps
  have hs : sortedF [.dict (kvT (tearsU h ps))] = some (.ownL ((tears h ps).map eBs)) := by
    have hm : (kvT (tearsU h ps)).map (·.1) = (tearsU h ps).map en := by simp [kvT]
    have := sorted_lH (α := List Br) (tearsU h ps) (by omega) (fun t ht => tupNE_T (tears_ne ((sE_mem _ _).mpr ht)))
    simp only [sortedF, seqF, hm] at this ⊢
    exact this
  have h1' : mFor (.one 3) mb_tears_of_1 (ps.map eB) [some (.val d), some (.val e), some (.ownD []), none, none] = some (.nx [some (.val d), some (.val e), some (.ownD (kvT (tearsU h ps))), a3, a4]) := h1
  simp [fm_tears_of, m_tears_of, hi, h1', hs]
end TS
/-! A22: lines: what lies straight behind whole corners -/
namespace TS
open PySem PySem.Spec PyProof.Rows L2 En EnK

theorem nxt_nxt (b : Br) (i j : Int) : nxt (nxt b i) j = nxt b (i + j) := by
  obtain ⟨w, x, y⟩ := b
  cases w <;> simp [nxt] <;> omega
theorem nxt_0 (b : Br) : nxt b 0 = b := by
  obtain ⟨w, x, y⟩ := b
  cases w <;> simp [nxt]
theorem nxt_inj {b : Br} {i j : Int} (h : nxt b i = nxt b j) : i = j := by
  obtain ⟨w, x, y⟩ := b
  cases w <;> simp [nxt] at h <;> omega
theorem along_nxt (b : Br) (i : Int) : along (nxt b i) = along b + i := by
  obtain ⟨w, x, y⟩ := b
  cases w <;> simp [nxt, along]
theorem cn_nxt (b : Br) (i : Int) : cnA (nxt b (i + 1)) = cnZ (nxt b i) := by
  obtain ⟨w, x, y⟩ := b
  cases w <;> simp [nxt, cnA, cnZ] <;> omega
theorem cor_p (b : Br) (i : Int) : cor (nxt b i) 1 = cnZ (nxt b i) := by simp [cor]
theorem cor_m (b : Br) (i : Int) : cor (nxt b i) (-1) = cnZ (nxt b (i - 1)) := by
  rw [← cn_nxt]; simp [cor]
/-- the corner behind the border at i is whole -/
abbrev Wh (h : List Br) (b : Br) (i : Int) : Prop := whole4 h (cnZ (nxt b i)) = true
theorem run_p {h : List Br} (hb : BdB h) : ∀ (n : Nat) (b x : Br), (run h 1 b).length = n → (x ∈ run h 1 b ↔ ∃ k : Nat, x = nxt b (k + 1) ∧ ∀ i : Nat, i ≤ k → Wh h b i)
  | 0, b, x, e => by
    have hr := run_eq hb (.inl rfl) b
    have e0 : run h 1 b = [] := List.eq_nil_of_length_eq_zero e
    rw [e0]
    constructor
    · intro z; cases z
    · rintro ⟨k, _, q⟩
      have : Wh h b 0 := q 0 (Nat.zero_le _)
      rw [show cor b 1 = cnZ (nxt b 0) by rw [nxt_0]; simp [cor]] at hr
      rw [if_pos this, e0] at hr; cases hr
  | n + 1, b, x, e => by
    have hr := run_eq hb (.inl rfl) b
    rw [show cor b 1 = cnZ (nxt b 0) by rw [nxt_0]; simp [cor]] at hr
    by_cases q : Wh h b 0
    · rw [if_pos q] at hr
      rw [hr] at e
      simp only [List.length_cons, Nat.add_right_cancel_iff] at e
      have ih := run_p hb n (nxt b 1) x e
      rw [hr, List.mem_cons, ih]
      constructor
      · rintro (rfl | ⟨k, rfl, hk⟩)
        · refine ⟨0, rfl, fun i hi => ?_⟩
          have : i = 0 := by omega
          subst this; exact q
        · refine ⟨k + 1, by rw [nxt_nxt]; congr 1; push_cast; omega, fun i hi => ?_⟩
          cases i with
          | zero => exact q
          | succ i =>
            have := hk i (by omega)
            simp only [Wh, nxt_nxt] at this
            rw [show (1 : Int) + i = ((i + 1 : Nat) : Int) by push_cast; omega] at this
            exact this
      · rintro ⟨k, rfl, hk⟩
        cases k with
        | zero => exact .inl rfl
        | succ k =>
          refine .inr ⟨k, by rw [nxt_nxt]; congr 1; push_cast; omega, fun i hi => ?_⟩
          have := hk (i + 1) (by omega)
          simp only [Wh, nxt_nxt]
          rw [show (1 : Int) + i = ((i + 1 : Nat) : Int) by push_cast; omega]
          exact this
    · rw [if_neg q] at hr
      rw [hr] at e; cases e
theorem run_m {h : List Br} (hb : BdB h) : ∀ (n : Nat) (b x : Br), (run h (-1) b).length = n → (x ∈ run h (-1) b ↔ ∃ k : Nat, x = nxt b (-(k + 1)) ∧ ∀ i : Nat, i ≤ k → Wh h b (-(i + 1)))
  | 0, b, x, e => by
    have hr := run_eq hb (.inr rfl) b
    have e0 : run h (-1) b = [] := List.eq_nil_of_length_eq_zero e
    rw [e0]
    constructor
    · intro z; cases z
    · rintro ⟨k, _, q⟩
      have : Wh h b (-(0 + 1)) := q 0 (Nat.zero_le _)
      rw [show cor b (-1) = cnZ (nxt b (-(0 + 1))) by have := cor_m b 0; rw [nxt_0] at this; rw [this]; rfl] at hr
      rw [if_pos this, e0] at hr; cases hr
  | n + 1, b, x, e => by
    have hr := run_eq hb (.inr rfl) b
    rw [show cor b (-1) = cnZ (nxt b (-(0 + 1))) by have := cor_m b 0; rw [nxt_0] at this; rw [this]; rfl] at hr
    by_cases q : Wh h b (-(0 + 1))
    · rw [if_pos q] at hr
      rw [hr] at e
      simp only [List.length_cons, Nat.add_right_cancel_iff] at e
      have ih := run_m hb n (nxt b (-1)) x e
      rw [hr, List.mem_cons, ih]
      constructor
      · rintro (rfl | ⟨k, rfl, hk⟩)
        · refine ⟨0, rfl, fun i hi => ?_⟩
          have : i = 0 := by omega
          subst this; exact q
        · refine ⟨k + 1, by rw [nxt_nxt]; congr 1; push_cast; omega, fun i hi => ?_⟩
          cases i with
          | zero => exact q
          | succ i =>
            have := hk i (by omega)
            simp only [Wh, nxt_nxt] at this
            rw [show (-1 : Int) + -(i + 1) = -(((i + 1 : Nat) : Int) + 1) by push_cast; omega] at this
            exact this
      · rintro ⟨k, rfl, hk⟩
        cases k with
        | zero => exact .inl rfl
        | succ k =>
          refine .inr ⟨k, by rw [nxt_nxt]; congr 1; push_cast; omega, fun i hi => ?_⟩
          have := hk (i + 1) (by omega)
          simp only [Wh, nxt_nxt]
          rw [show (-1 : Int) + -(i + 1) = -(((i + 1 : Nat) : Int) + 1) by push_cast; omega]
          exact this
    · rw [if_neg q] at hr
      rw [hr] at e; cases e
/-- straight on, over whole corners -/
def Co (h : List Br) (b x : Br) : Prop := ∃ k : Int, x = nxt b k ∧ ∀ i : Int, (0 ≤ i ∧ i < k ∨ k ≤ i ∧ i < 0) → Wh h b i
theorem Co.refl (h : List Br) (b : Br) : Co h b b := ⟨0, (nxt_0 b).symm, fun i hi => by omega⟩
theorem Co.symm {h : List Br} {b x : Br} (c : Co h b x) : Co h x b := by
  obtain ⟨k, rfl, hk⟩ := c
  refine ⟨-k, by rw [nxt_nxt, show k + -k = 0 by omega, nxt_0], fun i hi => ?_⟩
  simp only [Wh, nxt_nxt]
  exact hk (k + i) (by omega)
theorem Co.trans {h : List Br} {b x y : Br} (c : Co h b x) (d : Co h x y) : Co h b y := by
  obtain ⟨k, rfl, hk⟩ := c
  obtain ⟨l, rfl, hl⟩ := d
  refine ⟨k + l, by rw [nxt_nxt], fun i hi => ?_⟩
  by_cases q : 0 ≤ i ∧ i < k ∨ k ≤ i ∧ i < 0
  · exact hk i q
  · have := hl (i - k) (by omega)
    simp only [Wh, nxt_nxt] at this
    rwa [show k + (i - k) = i by omega] at this
theorem whole_mono {h h' : List Br} (s : ∀ b ∈ h', b ∈ h) {c : Fl} (q : whole4 h' c = true) : whole4 h c = true := by
  rw [whole4_iff] at q ⊢
  exact fun b hb => s b (q b hb)
theorem Co.mono {h h' : List Br} (s : ∀ b ∈ h', b ∈ h) {b x : Br} (c : Co h' b x) : Co h b x := by
  obtain ⟨k, rfl, hk⟩ := c
  exact ⟨k, rfl, fun i hi => whole_mono s (hk i hi)⟩
theorem line_mem {h : List Br} (hb : BdB h) (b x : Br) : x ∈ line h b ↔ Co h b x := by
  rw [line, sE_mem]
  simp only [List.mem_append, List.mem_singleton, run_p hb _ b x rfl, run_m hb _ b x rfl]
  constructor
  · rintro ((⟨k, rfl, hk⟩ | rfl) | ⟨k, rfl, hk⟩)
    · refine ⟨_, rfl, fun i hi => ?_⟩
      have := hk (-i - 1).toNat (by omega)
      rwa [show -((((-i - 1).toNat : Nat) : Int) + 1) = i by omega] at this
    · exact .refl _ _
    · refine ⟨_, rfl, fun i hi => ?_⟩
      have := hk i.toNat (by omega)
      rwa [show ((i.toNat : Nat) : Int) = i by omega] at this
  · rintro ⟨k, rfl, hk⟩
    by_cases q1 : k < 0
    · refine .inl (.inl ⟨(-k - 1).toNat, by congr 1; omega, fun i hi => hk _ (by omega)⟩)
    · by_cases q2 : k = 0
      · subst q2; exact .inl (.inr (nxt_0 b))
      · refine .inr ⟨(k - 1).toNat, by congr 1; omega, fun i hi => hk _ (by omega)⟩
theorem line_len2 (h : List Br) (b : Br) : (line h b).length = (run h (-1) b).length + 1 + (run h 1 b).length := by
  rw [line, sE_len]; simp; omega
theorem run_p_pw {h : List Br} (hb : BdB h) : ∀ (n : Nat) (b : Br), (run h 1 b).length = n → (run h 1 b).Nodup
  | 0, b, e => by rw [List.eq_nil_of_length_eq_zero e]; simp
  | n + 1, b, e => by
    have hr := run_eq hb (.inl rfl) b
    split at hr
    · rw [hr] at e ⊢
      simp only [List.length_cons, Nat.add_right_cancel_iff] at e
      rw [List.nodup_cons]
      refine ⟨fun z => ?_, run_p_pw hb n _ e⟩
      obtain ⟨k, hk, _⟩ := (run_p hb _ _ _ rfl).mp z
      rw [nxt_nxt] at hk
      have := nxt_inj hk; omega
    · rw [hr] at e; cases e
theorem run_m_pw {h : List Br} (hb : BdB h) : ∀ (n : Nat) (b : Br), (run h (-1) b).length = n → (run h (-1) b).Nodup
  | 0, b, e => by rw [List.eq_nil_of_length_eq_zero e]; simp
  | n + 1, b, e => by
    have hr := run_eq hb (.inr rfl) b
    split at hr
    · rw [hr] at e ⊢
      simp only [List.length_cons, Nat.add_right_cancel_iff] at e
      rw [List.nodup_cons]
      refine ⟨fun z => ?_, run_m_pw hb n _ e⟩
      obtain ⟨k, hk, _⟩ := (run_m hb _ _ _ rfl).mp z
      rw [nxt_nxt] at hk
      have := nxt_inj hk; omega
    · rw [hr] at e; cases e
theorem line_nodup {h : List Br} (hb : BdB h) (b : Br) : (line h b).Nodup := by
  rw [line, (sE_perm _).nodup_iff, List.nodup_append, List.nodup_append]
  refine ⟨⟨run_m_pw hb _ b rfl, by simp, ?_⟩, run_p_pw hb _ b rfl, ?_⟩
  · intro x hx y hy e
    simp at hy
    obtain ⟨k, hk, _⟩ := (run_m hb _ _ _ rfl).mp hx
    rw [e, hy] at hk
    have := nxt_inj ((nxt_0 b).trans hk); omega
  · intro x hx y hy e
    obtain ⟨k, hk, _⟩ := (run_p hb _ _ _ rfl).mp hy
    rcases List.mem_append.mp hx with hx | hx
    · obtain ⟨l, hl, _⟩ := (run_m hb _ _ _ rfl).mp hx
      have := nxt_inj (hl.symm.trans (e.trans hk)); omega
    · simp at hx
      rw [← e, hx] at hk
      have := nxt_inj ((nxt_0 b).trans hk); omega
theorem line_srt (h : List Br) (b : Br) : Srt (line h b) := sE_srt _
theorem line_eq {h : List Br} (hb : BdB h) {b x : Br} (c : Co h b x) : line h b = line h x :=
  srt_uniq (line_srt _ _) (line_srt _ _) (perm_of (line_nodup hb b) (line_nodup hb x) fun y => by
    rw [line_mem hb, line_mem hb]
    exact ⟨fun d => c.symm.trans d, fun d => c.trans d⟩)
theorem wh_two {h : List Br} {b : Br} {i : Int} (q : Wh h b i) : nxt b i ∈ h ∧ nxt b (i + 1) ∈ h := by
  simp only [Wh] at q
  rw [whole4_iff] at q
  obtain ⟨w, x, y⟩ := b
  have e1 : ∀ z : Int, z + 1 - 1 = z := fun z => by omega
  constructor
  · refine q _ ?_
    cases w <;> simp [four, nxt, cnZ, e1]
  · refine q _ ?_
    cases w <;> simp [four, nxt, cnZ, e1, Int.add_assoc]
theorem Co.in {h : List Br} {b x : Br} (hb : b ∈ h) (c : Co h b x) : x ∈ h := by
  obtain ⟨k, rfl, hk⟩ := c
  by_cases q1 : k < 0
  · exact (wh_two (hk k (by omega))).1
  · by_cases q2 : k = 0
    · subst q2; rw [nxt_0]; exact hb
    · have := (wh_two (hk (k - 1) (by omega))).2
      rwa [show k - 1 + 1 = k by omega] at this
theorem line_sub {h : List Br} (hb : BdB h) {b x : Br} (hm : b ∈ h) (hx : x ∈ line h b) : x ∈ h := ((line_mem hb b x).mp hx).in hm
end TS
/-! A23: the row -/
namespace TS
open PySem PySem.Spec PyProof.Rows L2 En EnK

/-- what hangs behind a tear -/
def cutH (h t : List Br) : List Br := h.filter fun b => decide (b ∉ t)
theorem cutH_mem (h t : List Br) (b : Br) : b ∈ cutH h t ↔ b ∈ h ∧ b ∉ t := by simp [cutH]
theorem cutH_lt {h ps t : List Br} (ht : t ∈ tears h ps) : (cutH h t).length < h.length := by
  obtain ⟨b, _, e⟩ := (tears_mem _ _ _).mp ht
  obtain ⟨rfl, hb, _⟩ := tear_line e
  have : (cutH h (line h b)).length ≠ h.length := fun z => by
    rw [cutH, List.length_filter_eq_length_iff] at z
    have := z b hb
    simp [line_self] at this
  have := List.length_filter_le (fun x => decide (x ∉ line h b)) h
  unfold cutH at *; omega
def hd (t : List Br) : Br := t.headD (false, 0, 0)
theorem hd_cons {t : List Br} (h : t ≠ []) : t = hd t :: t.tail := by cases t; exact absurd rfl h; rfl
theorem hd_mem {t : List Br} (h : t ≠ []) : hd t ∈ t := by cases t; exact absurd rfl h; simp [hd]
/-- the row told, and what hangs at its end -/
def rowF (h ps : List Br) : List Br × List Br := match e : tears h ps with
  | [] => ([], h)
  | t :: _ => (hd t :: (rowF (cutH h t) ps).1, (rowF (cutH h t) ps).2)
termination_by h.length
decreasing_by all_goals exact cutH_lt (ps := ps) (by rw [e]; simp)
theorem rowF_nil {h ps : List Br} (e : tears h ps = []) : rowF h ps = ([], h) := by
  rw [rowF]; split
  · rfl
  · rename_i q; rw [e] at q; cases q
theorem rowF_cons {h ps t : List Br} {ts : List (List Br)} (e : tears h ps = t :: ts) : rowF h ps = (hd t :: (rowF (cutH h t) ps).1, (rowF (cutH h t) ps).2) := by
  rw [rowF]; split
  · rename_i q; rw [e] at q; cases q
  · rename_i q; rw [e] at q; cases q; rfl
theorem cutH_nil (h : List Br) : cutH h [] = h := by simp [cutH]
theorem cutH_cut (h t u : List Br) : cutH (cutH h t) u = cutH h (t ++ u) := by
  simp only [cutH, List.filter_filter]
  refine List.filter_congr fun x _ => ?_
  by_cases h1 : x ∈ t <;> by_cases h2 : x ∈ u <;> simp [h1, h2]
theorem BdB.cut {h : List Br} (hb : BdB h) (t : List Br) : BdB (cutH h t) := fun b hm => hb b ((cutH_mem _ _ _).mp hm).1
theorem rowF_len (ps : List Br) : ∀ (n : Nat) (h : List Br), h.length = n → (rowF h ps).1.length ≤ n := by
  intro n
  induction n using Nat.strongRecOn with
  | _ n ih =>
    intro h e
    cases q : tears h ps with
    | nil => rw [rowF_nil q]; simp
    | cons t ts =>
      have := cutH_lt (h := h) (ps := ps) (t := t) (by rw [q]; simp)
      have := ih _ (by omega) (cutH h t) rfl
      rw [rowF_cons q]; simp only [List.length_cons]; omega
abbrev kB (b : Br) : NK := EnK.ks b
@[simp] theorem kof_B (f : Br) : kOf (eB f) = some (kB f) := EnK.kof f
@[simp] theorem find_B (xs : List Br) (a : Br) : (dFind (kvT xs) (kB a)).isSome = decide (a ∈ xs) := (dFind_kvT xs a).trans (by congr)
theorem drop_B (xs : List Br) (a : Br) : dDrop (kvT xs) (kB a) = kvT (cutH xs [a]) := by
  rw [dDrop_kvT, cutH]; congr 1; exact List.filter_congr fun x _ => by simp
abbrev rgR (s tn : D) (h ps fd : List Br) (a5 : Option RV) (a6 : Option D) : Regs := [some (.val s), some (.val tn), some (.ownD (kvT h)), some (.ownD (kvT ps)), some (.ownL (fd.map eB)), a5, a6.map .val, none]
theorem pop_loop {s tn : D} {h ps fd : List Br} {a5 : Option RV} {a6 : Option D} (t : List Br) (hn : t.Nodup) (hs : ∀ b ∈ t, b ∈ h) : ∃ a6', mFor (.one 6) mb_first_row_1 (t.map eB) (rgR s tn h ps fd a5 a6) = some (.nx (rgR s tn (cutH h t) ps fd a5 a6')) := by
  obtain ⟨ρ', h1, a6', rfl⟩ := mFor_of (α := Br) eB (t := .one 6) (m := mb_first_row_1) (fun pre ρ => ∃ a6, ρ = rgR s tn (cutH h pre) ps fd a5 a6) t (by
    rintro pre a post ρ e ⟨a6, rfl⟩
    have ha : a ∈ cutH h pre := by
      rw [cutH_mem]
      refine ⟨hs a (by rw [← e]; simp), fun z => ?_⟩
      rw [← e] at hn
      exact (List.nodup_append.mp hn).2.2 a z a (by simp) rfl
    refine ⟨_, rgR s tn (cutH h (pre ++ [a])) ps fd a5 (some (eB a)), rfl, ?_, _, rfl⟩
    simp [mb_first_row_1, rgR, ha, drop_B, cutH_cut]) (rgR s tn h ps fd a5 a6) ⟨a6, by rw [cutH_nil]⟩
  exact ⟨a6', h1⟩
theorem keys_B (ps : List Br) : itF (.dict (kvT ps)) = some (ps.map eB) := by
  simp only [itF, kvT, List.map_map]; rfl
theorem fm_first_row_g {fs : List Fl} {ps tn : List Br} (hl : fs.length ≤ 16) (hfn : fs.Nodup) (hp : ps.length ≤ 32) (hpn : ps.Nodup) (ht : tn.length ≤ 900) (hb : BdB (hang fs tn)) :
    fm_first_row [eS fs ps, eBs tn] = ok (.val (.tuple [.list ((rowF (hang fs tn) ps).1.map eB), eBs (ps.filter fun b => decide (b ∉ (rowF (hang fs tn) ps).2))])) := by
  have H1 := fm_hanging_of_eq fs ps tn (by omega) ht hfn
  have H2 := fm_pricks_of_eq fs ps (by omega) hpn
  have hhl : (hang fs tn).length ≤ 32 := by
    have := List.length_filter_le (fun b => decide (b ∉ tn)) (inner fs)
    have := inner_len fs
    unfold hang; omega
  have hT : ∀ h, BdB h → fm_tears_of [.dict (kvT h), .dict (kvT ps)] = ok (.ownL ((tears h ps).map eBs)) := fun h hb => fm_tears_of_g _ _ h ps (nin_dB h) (nin_dB ps) (keys_B ps) hb (by omega)
  generalize hang fs tn = h0 at *
  obtain ⟨⟨h, fd⟩, ρ', h1, ⟨a6, rfl, i1, i2, i3⟩, h2⟩ := mWhile_of (c := bT (oVar 5)) (b := mb_first_row_2)
    (fun (st : List Br × List Br) ρ => ∃ a6, ρ = rgR (eS fs ps) (eBs tn) st.1 ps st.2 (some (.ownL ((tears st.1 ps).map eBs))) a6 ∧ BdB st.1 ∧ (rowF h0 ps).1 = st.2 ++ (rowF st.1 ps).1 ∧ (rowF h0 ps).2 = (rowF st.1 ps).2) (fun st ρ => tears st.1 ps = []) (fun st => st.1.length) (by
      rintro ⟨h, fd⟩ ρ ⟨a6, rfl, i1, i2, i3⟩
      simp only at i1 i2 i3
      cases q : tears h ps with
      | nil => left; exact ⟨by simp [rgR, q], rfl⟩
      | cons t ts =>
        right
        have htm : t ∈ tears h ps := by rw [q]; simp
        have hne := tears_ne htm
        obtain ⟨b, hbp, eb⟩ := (tears_mem _ _ _).mp htm
        obtain ⟨el, hbh, _⟩ := tear_line eb
        have hsub : ∀ x ∈ t, x ∈ h := fun x hx => line_sub i1 hbh (by rw [el] at hx; exact hx)
        have hnd : t.Nodup := by rw [el]; exact line_nodup i1 b
        obtain ⟨a6', e1⟩ := pop_loop (s := eS fs ps) (tn := eBs tn) (h := h) (ps := ps) (fd := fd ++ [hd t]) (a5 := some (.ownL ((tears h ps).map eBs))) (a6 := a6) t hnd hsub
        rw [rowF_cons q] at i2 i3
        have hfl : fd.length < 1000 := by
          have := congrArg List.length i2
          have := rowF_len ps _ h0 rfl
          simp only [List.length_append, List.length_cons] at *; omega
        have e2 := hT (cutH h t) (i1.cut t)
        refine ⟨by simp [rgR, q], (cutH h t, fd ++ [hd t]), rgR (eS fs ps) (eBs tn) (cutH h t) ps (fd ++ [hd t]) (some (.ownL ((tears (cutH h t) ps).map eBs))) a6', ?_, ⟨_, rfl, i1.cut t, by simpa using i2, i3⟩, cutH_lt htm⟩
        have e4 : idxF (eBs t) (.int 0) = some (eB (hd t)) := by
          cases t with
          | nil => exact absurd rfl hne
          | cons b0 t => simp [eBs, hd]
        rw [q] at e1
        simp only [rgR, List.map_append, List.map_cons, List.map_nil] at e1
        simp [mb_first_row_2, rgR, q, e4, hfl, e1, e2]) 1000 (h0, []) (rgR (eS fs ps) (eBs tn) h0 ps [] (some (.ownL ((tears h0 ps).map eBs))) none) ⟨none, rfl, hb, by simp, rfl⟩ (by simp only; omega)
  simp only at h2 i2 i3
  rw [rowF_nil h2] at i2 i3
  simp only [List.append_nil] at i2 i3
  rw [i2, i3]
  simp only [rgR, List.map_nil, Option.map_none] at h1
  have lc := eLc_of (α := Br) eB (fun b => decide (b ∉ h)) eB (t := .one 6) (vs := [6]) (it := iA (o2 idxF (vVar 0) (oC (.int 1)))) (c := b2 notInF (oVar 6) (oVar 2)) (e := vVar 6) (ρ := rgR (eS fs ps) (eBs tn) h ps fd (some (.ownL ((tears h ps).map eBs))) a6) ps (by simp [rgR]) (by cases a6 <;> simp [rgR]) (by omega) (fun f _ => ⟨_, rfl, by simp [rgR], fun _ => by simp [rgR]⟩)
  have ht3 := tup_B (ps.filter fun b => decide (b ∉ h)) (by have := List.length_filter_le (fun b => decide (b ∉ h)) ps; omega)
  simp only [rgR] at lc
  simp at ht3
  simp [fm_first_row, m_first_row, H1, H2, hT h0 hb, h1, lc, ht3]
end TS
/-! A24: rows told and looked at -/
namespace TS
open PySem PySem.Spec PyProof.Rows L2 En EnK

theorem Gd.bdI {fs : List Fl} {ps : List Br} (g : Gd fs ps) : BdB (inner fs) := fun b hb => by
  have h := g.bd _ ((inner_mem _ _).mp hb).1
  obtain ⟨w, x, y⟩ := b
  simp only [atA, inn, Bool.and_eq_true] at h
  obtain ⟨⟨h1, h2⟩, h3, h4⟩ := h
  have h1 : 0 ≤ x := of_decide_eq_true h1
  have h2 : x ≤ 7 := of_decide_eq_true h2
  have h3 : 0 ≤ y := of_decide_eq_true h3
  have h4 : y ≤ 7 := of_decide_eq_true h4
  cases w <;> simp [along] <;> omega
theorem BdB.sub {h h' : List Br} (hb : BdB h) (s : ∀ b ∈ h', b ∈ h) : BdB h' := fun b hm => hb b (s b hm)
theorem hang_sub (fs : List Fl) (tn : List Br) : ∀ b ∈ hang fs tn, b ∈ inner fs := fun b hb => (List.mem_filter.mp hb).1
theorem hang_mem (fs : List Fl) (tn : List Br) (b : Br) : b ∈ hang fs tn ↔ b ∈ inner fs ∧ b ∉ tn := by simp [hang]
theorem Gd.bdH {fs : List Fl} {ps : List Br} (g : Gd fs ps) (tn : List Br) : BdB (hang fs tn) := g.bdI.sub (hang_sub fs tn)
theorem hang_nil (fs : List Fl) : hang fs [] = inner fs := by simp [hang]
theorem hang_len (fs : List Fl) (tn : List Br) : (hang fs tn).length ≤ 2 * fs.length := Nat.le_trans (List.length_filter_le _ _) (inner_len fs)
/-- the pricks that do not hang -/
def goneF (h ps : List Br) : List Br := ps.filter fun b => decide (b ∉ h)
def endH (fs : List Fl) (ps tn : List Br) : List Br := (rowF (hang fs tn) ps).2
theorem fm_first_row_eq {fs : List Fl} {ps tn : List Br} (g : Gd fs ps) (ht : tn.length ≤ 900) : fm_first_row [eS fs ps, eBs tn] = ok (.val (.tuple [.list ((rowF (hang fs tn) ps).1.map eB), eBs (goneF (endH fs ps tn) ps)])) :=
  fm_first_row_g g.le g.nd g.plen g.pnd ht (g.bdH tn)
theorem eBs_nil : eBs [] = .tuple [] := rfl
theorem fm_end_torn_eq {fs : List Fl} {ps : List Br} (g : Gd fs ps) : fm_end_torn [eS fs ps] = ok (.val (eBs (goneF (endH fs ps []) ps))) := by
  have h := fm_first_row_eq g (tn := []) (by simp)
  rw [eBs_nil] at h
  simp [fm_end_torn, m_end_torn, h]
theorem fm_end_eq {fs : List Fl} {ps : List Br} (g : Gd fs ps) : fm_end [eS fs ps] = ok (.val (eBs (goneF (endH fs ps []) ps))) := by
  simp [fm_end, m_end, fm_look_ok g, fm_end_torn_eq g]
theorem fm_row_eq {fs : List Fl} {ps : List Br} (g : Gd fs ps) : fm_row [eS fs ps] = ok (.val (.list ((rowF (inner fs) ps).1.map eB))) := by
  have h := fm_first_row_eq g (tn := []) (by simp)
  rw [eBs_nil, hang_nil] at h
  simp [fm_row, m_row, fm_look_ok g, h]
theorem fm_tears_eq {fs : List Fl} {ps tn : List Br} (g : Gd fs ps) (t : Tn ps tn) : fm_tears [eS fs ps, eBs tn] = ok (.ownL ((tears (hang fs tn) ps).map eBs)) := by
  have H1 := fm_hanging_of_eq fs ps tn (by have := g.le; omega) (by have := t.len g; omega) g.nd
  have H2 := fm_pricks_of_eq fs ps (by have := g.plen; omega) g.pnd
  have H3 := fm_tears_of_g _ _ (hang fs tn) ps (nin_dB (hang fs tn)) (nin_dB ps) (keys_B ps) (g.bdH tn) (by have := g.plen; omega)
  simp [fm_tears, m_tears, fm_look_torn_ok g t, H1, H2, H3]
theorem fm_torn_by_eq {fs : List Fl} {ps tn : List Br} (g : Gd fs ps) (t : Tn ps tn) (b : Br) (hb : b ∈ inner fs) : fm_torn_by [eS fs ps, eBs tn, eB b] = match tear (hang fs tn) ps b with
    | none => some (.inr ⟨"NoTear", some ("at", .int 0)⟩)
    | some u => ok (.val (eBs (sE (tn ++ u)))) := by
  have H1 := fm_hanging_of_eq fs ps tn (by have := g.le; omega) (by have := t.len g; omega) g.nd
  have H2 := fm_pricks_of_eq fs ps (by have := g.plen; omega) g.pnd
  have H3 := fm_tear_at_g _ _ (hang fs tn) ps b (nin_dB (hang fs tn)) (nin_dB ps) (g.bdH tn)
  have H4 := fm_look_border_eq g b
  rw [if_pos hb] at H4
  cases q : tear (hang fs tn) ps b with
  | none =>
    rw [q] at H3
    simp [fm_torn_by, m_torn_by, fm_look_torn_ok g t, H1, H2, H3, H4, oT]
  | some u =>
    rw [q] at H3
    have hl := line_len (g.bdH tn) b
    rw [← (tear_line q).1] at hl
    have tl := t.len g
    have a1 : addF (eBs tn) (eBs u) = some (.val (eBs (tn ++ u))) := by simp [eBs, addF]; omega
    have a2 := sorted_t (tn ++ u) (by simp; omega)
    have a2' : sortedF [eBs (tn ++ u)] = some (.ownL ((sE (tn ++ u)).map eB)) := a2
    have a3 := tup_B (sE (tn ++ u)) (by rw [sE_len]; simp; omega)
    simp [fm_torn_by, m_torn_by, fm_look_torn_ok g t, H1, H2, H3, H4, oT, a1, a2', a3]
def stepR (h ps : List Br) : List Br → Nat → Sum Nat (List Br)
  | [], _ => .inr h
  | b :: bs, i => match tear h ps b with
    | none => .inl i
    | some t => stepR (cutH h t) ps bs (i + 1)
abbrev rgW (s th : D) (h ps : List Br) (a4 : Option RV) (a5 a6 : Option D) (a7 : Option RV) : Regs := [some (.val s), some (.val th), some (.ownD (kvT h)), some (.ownD (kvT ps)), a4, a5.map .val, a6.map .val, a7]
theorem pop_loop2 {s th : D} {h ps : List Br} {a4 a7 : Option RV} {a5 a6 : Option D} (t : List Br) (hn : t.Nodup) (hs : ∀ b ∈ t, b ∈ h) : ∃ a7', mFor (.one 7) mb_torn_row_1 (t.map eB) (rgW s th h ps a4 a5 a6 a7) = some (.nx (rgW s th (cutH h t) ps a4 a5 a6 a7')) := by
  obtain ⟨ρ', h1, a7', rfl⟩ := mFor_of (α := Br) eB (t := .one 7) (m := mb_torn_row_1) (fun pre ρ => ∃ a7, ρ = rgW s th (cutH h pre) ps a4 a5 a6 a7) t (by
    rintro pre a post ρ e ⟨a7, rfl⟩
    have ha : a ∈ cutH h pre := by
      rw [cutH_mem]
      refine ⟨hs a (by rw [← e]; simp), fun z => ?_⟩
      rw [← e] at hn
      exact (List.nodup_append.mp hn).2.2 a z a (by simp) rfl
    refine ⟨_, rgW s th (cutH h (pre ++ [a])) ps a4 a5 a6 (some (.val (eB a))), rfl, ?_, _, rfl⟩
    simp [mb_torn_row_1, rgW, ha, drop_B, cutH_cut]) (rgW s th h ps a4 a5 a6 a7) ⟨a7, by rw [cutH_nil]⟩
  exact ⟨a7', h1⟩
theorem torn_loop {s th : D} {ps : List Br} : ∀ (bs : List Br) (i : Nat) (h : List Br) (a4 : Option RV) (a5 a6 : Option D) (a7 : Option RV), BdB h → match stepR h ps bs i with
    | .inl k => ∃ ρ', mFor (.tup [4, 5]) mb_torn_row_2 ((bs.zipIdx i).map (enP eB)) (rgW s th h ps a4 a5 a6 a7) = some (.ex ⟨"NoTear", some ("at", .int (k : Nat))⟩ ρ')
    | .inr h' => ∃ a4' a5' a6' a7', mFor (.tup [4, 5]) mb_torn_row_2 ((bs.zipIdx i).map (enP eB)) (rgW s th h ps a4 a5 a6 a7) = some (.nx (rgW s th h' ps a4' a5' a6' a7'))
  | [], i, h, a4, a5, a6, a7, _ => ⟨a4, a5, a6, a7, rfl⟩
  | b :: bs, i, h, a4, a5, a6, a7, hb => by
    have H3 := fm_tear_at_g _ _ h ps b (nin_dB h) (nin_dB ps) hb
    rw [stepR]
    cases q : tear h ps b with
    | none =>
      rw [q] at H3
      simp [mFor, enP, rgW, mb_torn_row_2, H3, oT]
    | some t =>
      rw [q] at H3
      obtain ⟨el, hbh, _⟩ := tear_line q
      obtain ⟨a7', e1⟩ := pop_loop2 (s := s) (th := th) (h := h) (ps := ps) (a4 := some (.val (.int (i : Nat)))) (a5 := some (eB b)) (a6 := some (eBs t)) (a7 := a7) t (by rw [el]; exact line_nodup hb b) (fun x hx => line_sub hb hbh (by rw [el] at hx; exact hx))
      have ih := torn_loop (s := s) (th := th) (ps := ps) bs (i + 1) (cutH h t) (some (.val (.int (i : Nat)))) (some (eB b)) (some (eBs t)) a7' (hb.cut t)
      have step : mFor (.tup [4, 5]) mb_torn_row_2 (((b :: bs).zipIdx i).map (enP eB)) (rgW s th h ps a4 a5 a6 a7) = mFor (.tup [4, 5]) mb_torn_row_2 ((bs.zipIdx (i + 1)).map (enP eB)) (rgW s th (cutH h t) ps (some (.val (.int (i : Nat)))) (some (eB b)) (some (eBs t)) a7') := by
        simp only [rgW, Option.map_some] at e1
        simp [mFor, enP, rgW, mb_torn_row_2, H3, oT, e1]
      simp only [step]
      exact ih
end TS
/-! A25: rows looked at -/
namespace TS
open PySem PySem.Spec PyProof.Rows L2 En EnK

@[simp] theorem is_ln : isF "list" .none = some false := by kernel_rfl
@[simp] theorem is_tn : isF "tuple" .none = some false := by kernel_rfl
@[simp] theorem is_tl (xs : List D) : isF "tuple" (.list xs) = some false := by kernel_rfl
@[simp] theorem is_lBs (xs : List Br) : isF "list" (eBs xs) = some false := by kernel_rfl
theorem is_row_nl (s d : D) (h : isF "list" d = some false) : fm_is_row [s, d] = ok (.val (.bool false)) := by
  simp [fm_is_row, m_is_row, h]
theorem is_row_long (s : D) (ds : List D) (h : 24 < ds.length) : fm_is_row [s, .list ds] = ok (.val (.bool false)) := by
  have h' : (24 : Int) < ds.length := by omega
  simp [fm_is_row, m_is_row, h, pGt, h']
theorem is_row_bad (s : D) (ds : List D) (p : D → Bool) (hp : ∀ d ∈ ds, fm_is_border [d] = ok (.val (.bool (p d)))) (hl : ds.length ≤ 900) (h : ∃ d ∈ ds, p d = false) : fm_is_row [s, .list ds] = ok (.val (.bool false)) := by
  have lc := eLc_of (α := D) id (fun d => !p d) id (t := .one 2) (vs := [2]) (it := iA (vVar 1)) (c := bNot (bT (oE (eCall 1 fm_is_border (lCons (oVar 2) lNil))))) (e := vVar 2) (ρ := [some (.val s), some (.val (.list ds)), none, none]) ds (by simp) (by simp) (by omega) (fun d hd => ⟨_, rfl, by simp [hp d hd], fun _ => by simp⟩)
  have hne : ds.filter (fun d => !p d) ≠ [] := fun e => by
    obtain ⟨d, h1, h2⟩ := h
    have := List.filter_eq_nil_iff.mp e d h1
    simp [h2] at this
  by_cases q : (24 : Int) < ds.length
  · simp [fm_is_row, m_is_row, pGt, q]
  · simp only [List.map_id] at lc
    simp [fm_is_row, m_is_row, pGt, q, lc, ok_ite, h]
theorem is_row_eq {fs : List Fl} {ps : List Br} (g : Gd fs ps) (bs : List Br) (hl : bs.length ≤ 24) (ho : ∀ b ∈ bs, okB b = true) : fm_is_row [eS fs ps, .list (bs.map eB)] = ok (.val (.bool (decide (∀ b ∈ bs, b ∈ inner fs)))) := by
  have hb := fm_borders_of_t fs (by have := g.le; omega)
  have lc := eLc_of (α := Br) eB (fun b => !okB b) eB (t := .one 2) (vs := [2]) (it := iA (vVar 1)) (c := bNot (bT (oE (eCall 1 fm_is_border (lCons (oVar 2) lNil))))) (e := vVar 2) (ρ := [some (.val (eS fs ps)), some (.val (.list (bs.map eB))), none, none]) bs (by simp) (by simp) (by omega) (fun d hd => ⟨_, rfl, by simp [fm_is_border_eq], fun _ => by simp⟩)
  have lc2 := eLc_of (α := Br) eB (fun b => decide (b ∉ inner fs)) eB (t := .one 2) (vs := [2]) (it := iA (vVar 1)) (c := b2 notInF (oVar 2) (oVar 3)) (e := vVar 2) (ρ := [some (.val (eS fs ps)), some (.val (.list (bs.map eB))), none, some (.ownL ((inner fs).map eB))]) bs (by simp) (by simp) (by omega) (fun d hd => ⟨_, rfl, by simp, fun _ => by simp⟩)
  have hn : bs.filter (fun b => !okB b) = [] := by
    rw [List.filter_eq_nil_iff]; intro b h; simp [ho b h]
  rw [hn] at lc
  have q : ¬ (24 : Int) < bs.length := by omega
  simp [fm_is_row, m_is_row, pGt, q, lc, ok_ite, hb, lc2]
  congr 3
  rw [Bool.eq_iff_iff]
  simp [List.filter_eq_nil_iff]
theorem torn_row_no {fs : List Fl} {ps : List Br} (g : Gd fs ps) (d : D) (h : fm_is_row [eS fs ps, d] = ok (.val (.bool false))) : fm_torn_row [eS fs ps, d] = xc "BadRow" := by
  simp [fm_torn_row, m_torn_row, fm_look_ok g, h]
theorem torn_row_eq {fs : List Fl} {ps : List Br} (g : Gd fs ps) (bs : List Br) (hl : bs.length ≤ 24) (hin : ∀ b ∈ bs, b ∈ inner fs) : fm_torn_row [eS fs ps, .list (bs.map eB)] = match stepR (inner fs) ps bs 0 with
    | .inl k => some (.inr ⟨"NoTear", some ("at", .int (k : Nat))⟩)
    | .inr h => ok (.val (eBs (goneF h ps))) := by
  have hr := is_row_eq g bs hl (fun b hb => inner_okB g (hin b hb))
  rw [decide_eq_true hin] at hr
  have H1 := fm_hanging_of_eq fs ps [] (by have := g.le; omega) (by simp) g.nd
  have H2 := fm_pricks_of_eq fs ps (by have := g.plen; omega) g.pnd
  rw [eBs_nil, hang_nil] at H1
  have tl := torn_loop (s := eS fs ps) (th := .list (bs.map eB)) (ps := ps) bs 0 (inner fs) none none none none g.bdI
  cases q : stepR (inner fs) ps bs 0 with
  | inl k =>
    rw [q] at tl
    obtain ⟨ρ', e⟩ := tl
    simp only [rgW, Option.map_none] at e
    simp [fm_torn_row, m_torn_row, fm_look_ok g, hr, H1, H2, enD_eq, e]
  | inr h =>
    rw [q] at tl
    obtain ⟨a4, a5, a6, a7, e⟩ := tl
    have lc := eLc_of (α := Br) eB (fun b => decide (b ∉ h)) eB (t := .one 5) (vs := [5]) (it := iA (o2 idxF (vVar 0) (oC (.int 1)))) (c := b2 notInF (oVar 5) (oVar 2)) (e := vVar 5) (ρ := rgW (eS fs ps) (.list (bs.map eB)) h ps a4 a5 a6 a7) ps (by simp [rgW]) (by cases a5 <;> simp [rgW]) (by have := g.plen; omega) (fun d hd => ⟨_, rfl, by simp [rgW], fun _ => by simp [rgW]⟩)
    have ht3 := tup_B (goneF h ps) (by have := List.length_filter_le (fun b => decide (b ∉ h)) ps; have := g.plen; unfold goneF; omega)
    simp only [rgW, Option.map_none] at e
    simp only [rgW] at lc
    rw [show ps.filter (fun b => decide (b ∉ h)) = goneF h ps from rfl] at lc
    simp [fm_torn_row, m_torn_row, fm_look_ok g, hr, H1, H2, enD_eq, e, lc, ht3]
end TS
/-! A26: torn, border by border -/
namespace TS
open PySem PySem.Spec PyProof.Rows L2 En EnK

theorem fm_law_hang_eq (fs : List Fl) (ps tn : List Br) (hl : fs.length ≤ 400) (hn : fs.Nodup) : fm_law_hang [eS fs ps, eBs tn] = ok (.ownL ((hang fs tn).map eB)) := by
  have hi := fm_law_inner_eq fs hl hn
  have hil := inner_len fs
  have lc := eLc_of (α := Br) eB (fun b => decide (b ∉ tn)) eB (t := .one 2) (vs := [2]) (it := iA (oE (eCall 1 fm_law_inner (lCons (o2 idxF (oVar 0) (oC (.int 0))) (lNil))))) (c := b2 notInF (oVar 2) (oVar 1)) (e := vVar 2) (ρ := [some (.val (eS fs ps)), some (.val (eBs tn)), none]) (inner fs) (by simp [hi]) (by simp) (by omega) (fun d hd => ⟨_, rfl, by simp [eBs], fun _ => by simp⟩)
  have e : (inner fs).filter (fun b => decide (b ∉ tn)) = hang fs tn := rfl
  rw [e] at lc
  simp [fm_law_hang, m_law_hang, lc]
theorem hang_cut (fs : List Fl) (tn t : List Br) : hang fs (sE (tn ++ t)) = cutH (hang fs tn) t := by
  simp only [hang, cutH, List.filter_filter]
  refine List.filter_congr fun x _ => ?_
  by_cases h1 : x ∈ tn <;> by_cases h2 : x ∈ t <;> simp [sE_mem, h1, h2]
theorem Tn.nil (ps : List Br) : Tn ps [] := ⟨rfl, by simp⟩
theorem Tn.srt {ps tn : List Br} (t : Tn ps tn) : Srt tn := ((rise_iff _).mp t.1).1
theorem Tn.nd {ps tn : List Br} (t : Tn ps tn) : tn.Nodup := ((rise_iff _).mp t.1).2
theorem Tn.step {fs : List Fl} {ps tn u : List Br} {b : Br} (g : Gd fs ps) (t : Tn ps tn) (e : tear (hang fs tn) ps b = some u) : Tn ps (sE (tn ++ u)) := by
  obtain ⟨el, hbh, hps⟩ := tear_line e
  refine ⟨(rise_iff _).mpr ⟨sE_srt _, ?_⟩, fun x hx => ?_⟩
  · rw [(sE_perm _).nodup_iff, List.nodup_append]
    refine ⟨t.nd, by rw [el]; exact line_nodup (g.bdH tn) b, fun x hx y hy e2 => ?_⟩
    rw [el] at hy
    have := line_sub (g.bdH tn) hbh hy
    rw [hang_mem] at this
    exact this.2 (e2 ▸ hx)
  · rw [sE_mem, List.mem_append] at hx
    exact hx.elim (t.2 x) (hps x)
theorem gone_hang {fs : List Fl} {ps tn : List Br} (g : Gd fs ps) (t : Tn ps tn) : goneF (hang fs tn) ps = tn := by
  refine srt_uniq (g.psrt.sublist List.filter_sublist) t.srt (perm_of (g.pnd.sublist List.filter_sublist) t.nd fun x => ?_)
  have e : x ∈ goneF (hang fs tn) ps ↔ x ∈ ps ∧ ¬ (x ∈ inner fs ∧ x ∉ tn) := by
    rw [goneF, List.mem_filter, decide_eq_true_iff, hang_mem]
  rw [e]
  constructor
  · rintro ⟨h1, h2⟩
    exact Classical.byContradiction fun h => h2 ⟨g.sub x h1, h⟩
  · intro h; exact ⟨t.2 x h, fun z => z.2 h⟩
/-- what is torn behind a row, or the number of the first that is in no tear -/
def dueR (fs : List Fl) (ps : List Br) : List Br → Nat → List Br → Sum Nat (List Br)
  | [], _, tn => .inr tn
  | b :: bs, i, tn => match tear (hang fs tn) ps b with
    | none => .inl i
    | some t => dueR fs ps bs (i + 1) (sE (tn ++ t))
theorem step_due {fs : List Fl} {ps : List Br} (g : Gd fs ps) : ∀ (bs : List Br) (i : Nat) (tn : List Br), Tn ps tn → (match dueR fs ps bs i tn with
    | .inl k => stepR (hang fs tn) ps bs i = .inl k
    | .inr tn' => stepR (hang fs tn) ps bs i = .inr (hang fs tn') ∧ Tn ps tn')
  | [], i, tn, t => ⟨rfl, t⟩
  | b :: bs, i, tn, t => by
    rw [dueR, stepR]
    cases q : tear (hang fs tn) ps b with
    | none => rfl
    | some u =>
      have ih := step_due g bs (i + 1) (sE (tn ++ u)) (t.step g q)
      rw [hang_cut] at ih
      exact ih
theorem dueR_snoc (fs : List Fl) (ps : List Br) (b : Br) : ∀ (bs : List Br) (i : Nat) (tn : List Br), dueR fs ps (bs ++ [b]) i tn = match dueR fs ps bs i tn with
    | .inl k => .inl k
    | .inr tn' => match tear (hang fs tn') ps b with
      | none => .inl (i + bs.length)
      | some t => .inr (sE (tn' ++ t))
  | [], i, tn => by
    simp only [List.nil_append, dueR, List.length_nil, Nat.add_zero]
  | a :: bs, i, tn => by
    rw [List.cons_append, dueR, dueR]
    cases tear (hang fs tn) ps a with
    | none => rfl
    | some u =>
      have e : i + 1 + bs.length = i + (bs.length + 1) := by omega
      simp only [dueR_snoc fs ps b bs, List.length_cons, ← e]
/-- "tear " and a number -/
def tos (k : Nat) : Str := toString (k : Int)
def tstr (k : Nat) : Str := ("tear " : Str) ++ tos k
def tchk (k : Nat) : Bool := decide (("tear " : Str).length + (tos k).length ≤ 1000000) && SeqAt.shaped (.str (tstr k)) && decide ((k : Int).natAbs.log2 < 1920)
theorem tchk_ok : ∀ k : Fin 40, tchk k.val = true := by decide +kernel
theorem tstr_ok (k : Nat) (h : k < 40) : addF (.str "tear ") (.str (tos k)) = some (.val (.str (tstr k))) ∧ strF1 [.int (k : Int)] = some (.val (.str (tos k))) ∧ SeqAt.shaped (.str (tstr k)) = true := by
  have := tchk_ok ⟨k, h⟩
  simp only [tchk, Bool.and_eq_true, decide_eq_true_eq] at this
  obtain ⟨⟨h1, h2⟩, h3⟩ := this
  refine ⟨?_, ?_, h2⟩
  · simp only [addF]; rw [if_pos h1]; rfl
  · simp only [strF1]; rw [if_pos h3]; rfl
theorem ne_same (d : D) (h : SeqAt.shaped d = true) : neF d d = some false := by
  have h1 : d.canLay0 = true := by simp only [SeqAt.shaped, Bool.and_eq_true] at h; exact h.1
  rw [neF, if_pos ⟨h, h⟩, SeqAt.eqv_refl d h1]; rfl
end TS
/-! A27: how many borders -/
namespace TS
open PySem PySem.Spec PyProof.Rows L2 En EnK

theorem max_of {α : Type} (m : α → Int) : ∀ (xs : List α), xs ≠ [] → ∃ a ∈ xs, ∀ b ∈ xs, m b ≤ m a
  | [], h => absurd rfl h
  | [a], _ => ⟨a, by simp, by simp⟩
  | a :: b :: xs, _ => by
    obtain ⟨c, h1, h2⟩ := max_of m (b :: xs) (by simp)
    by_cases q : m c ≤ m a
    · exact ⟨a, by simp, fun d hd => by
        rcases List.mem_cons.mp hd with rfl | hd
        · exact Int.le_refl _
        · exact Int.le_trans (h2 d hd) q⟩
    · exact ⟨c, List.mem_cons_of_mem _ h1, fun d hd => by
        rcases List.mem_cons.mp hd with rfl | hd
        · omega
        · exact h2 d hd⟩
theorem filter_lt {α : Type} {p : α → Bool} {xs : List α} {a : α} (ha : a ∈ xs) (hp : p a = false) : (xs.filter p).length < xs.length := by
  have h1 := List.length_filter_le p xs
  have h2 : (xs.filter p).length ≠ xs.length := fun e => by
    rw [List.length_filter_eq_length_iff] at e
    rw [e a ha] at hp; cases hp
  omega
theorem innW_lt (w : Bool) (fs : List Fl) (h : fs ≠ []) : (innW w fs fs).length < fs.length := by
  simp only [innW, List.length_map]
  cases w with
  | true =>
    obtain ⟨a, h1, h2⟩ := max_of (fun f : Fl => f.1) fs h
    refine filter_lt h1 (decide_eq_false fun z => ?_)
    have := h2 _ z
    simp [atZ] at this; omega
  | false =>
    obtain ⟨a, h1, h2⟩ := max_of (fun f : Fl => f.2) fs h
    refine filter_lt h1 (decide_eq_false fun z => ?_)
    have := h2 _ z
    simp [atZ] at this; omega
theorem inner_lt (fs : List Fl) (h : fs ≠ []) : (inner fs).length + 2 ≤ 2 * fs.length := by
  have h1 := innW_lt false fs h
  have h2 := innW_lt true fs h
  rw [inner, sE_len, innU, List.length_append]; omega
theorem GF.nn {m : Nat} {fs : List Fl} (g : GF m fs) : fs ≠ [] := fun e => by have := g.ne; rw [e] at this; simp at this
theorem rowF_sub (ps : List Br) : ∀ (n : Nat) (h : List Br), h.length = n → ∀ b ∈ (rowF h ps).1, b ∈ ps := by
  intro n
  induction n using Nat.strongRecOn with
  | _ n ih =>
    intro h e b hb
    cases q : tears h ps with
    | nil => rw [rowF_nil q] at hb; cases hb
    | cons t ts =>
      have ht : t ∈ tears h ps := by rw [q]; simp
      have := cutH_lt ht
      rw [rowF_cons q] at hb
      rcases List.mem_cons.mp hb with rfl | hb
      · obtain ⟨c, _, ec⟩ := (tears_mem _ _ _).mp ht
        exact (tear_line ec).2.2 _ (hd_mem (tears_ne ht))
      · exact ih _ (by omega) (cutH h t) rfl b hb
end TS
/-! A28: rows of the handlers -/
namespace TS
open PySem PySem.Spec PyProof.Rows L2 En EnK

def tryK (hs : List Hd) (o : Option Out) : Option Out := match o with
  | some (.ex x ρ') => runH hs x ρ'
  | r => r
@[simp] theorem u_sTryM (hs : List Hd) (mb : SM) (ρ : Regs) : sTryM hs mb ρ = tryK hs (mb ρ) := rfl
@[simp] theorem u_tryK_ex (hs : List Hd) (x : Exc) (ρ : Regs) : tryK hs (some (.ex x ρ)) = runH hs x ρ := rfl
@[simp] theorem u_tryK_nx (hs : List Hd) (ρ : Regs) : tryK hs (some (.nx ρ)) = some (.nx ρ) := rfl
@[simp] theorem u_tryK_rt (hs : List Hd) (r : RV) (ρ : Regs) : tryK hs (some (.rt r ρ)) = some (.rt r ρ) := rfl
def runK (h : Hd) (r : List Hd) (x : Exc) (ρ : Regs) (b : Option Bool) : Option Out := match b with
  | some true => hdRun h x ρ
  | some false => runH r x ρ
  | none => none
@[simp] theorem u_runH (h : Hd) (r : List Hd) (x : Exc) (ρ : Regs) : runH (h :: r) x ρ = runK h r x ρ (h.cs x.cls) := rfl
@[simp] theorem u_runK_t (h : Hd) (r : List Hd) (x : Exc) (ρ : Regs) : runK h r x ρ (some true) = hdRun h x ρ := rfl
@[simp] theorem u_runK_f (h : Hd) (r : List Hd) (x : Exc) (ρ : Regs) : runK h r x ρ (some false) = runH r x ρ := rfl
def hdK1 (o : Option Out) : Option Out := match o with
  | some (.nx ρ2) => some (.nx ρ2)
  | some (.rt rv ρ2) => some (.rt rv ρ2)
  | _ => none
def hdK2 (i : Nat) (o : Option Out) : Option Out := match o with
  | some (.nx ρ2) => some (.nx (ρ2.set i none))
  | some (.rt rv ρ2) => some (.rt rv ρ2)
  | _ => none
@[simp] theorem u_hdRun_n (cs : String → Option Bool) (ms : Exc → SM) (x : Exc) (ρ : Regs) : hdRun ⟨none, cs, ms⟩ x ρ = hdK1 (ms x ρ) := rfl
@[simp] theorem u_hdRun_s (i : Nat) (cs : String → Option Bool) (ms : Exc → SM) (x : Exc) (ρ : Regs) : hdRun ⟨some i, cs, ms⟩ x ρ = if fldOk x.fld = true ∧ i < ρ.length then hdK2 i (ms x (ρ.set i none)) else none := rfl
@[simp] theorem u_hdK1_nx (ρ : Regs) : hdK1 (some (.nx ρ)) = some (.nx ρ) := rfl
@[simp] theorem u_hdK1_rt (r : RV) (ρ : Regs) : hdK1 (some (.rt r ρ)) = some (.rt r ρ) := rfl
@[simp] theorem u_hdK2_nx (i : Nat) (ρ : Regs) : hdK2 i (some (.nx ρ)) = some (.nx (ρ.set i none)) := rfl
@[simp] theorem u_hdK2_rt (i : Nat) (r : RV) (ρ : Regs) : hdK2 i (some (.rt r ρ)) = some (.rt r ρ) := rfl
@[simp] theorem u_fldOk_n : fldOk none = true := rfl
@[simp] theorem u_fldOk_i (f : Str) (n : Int) : fldOk (some (f, .int n)) = true := rfl
@[simp] theorem u_fldOk_no (f : Str) : fldOk (some (f, .none)) = true := rfl
def fldK (f : Str) (o : Option (Str × D)) : ER D := match o with
  | some (g, dat) => if g = f then ok dat else none
  | none => none
@[simp] theorem u_oFld (x : Exc) (y : String) (f : Str) (ρ : Regs) : oFld x y f ρ = if x.cls = y then fldK f x.fld else none := rfl
@[simp] theorem u_fldK (f : Str) (d : D) : fldK f (some (f, d)) = ok d := by simp [fldK]
@[simp] theorem u_eRep (ma : EM) (mb : OM) (ρ : Regs) : eRep ma mb ρ = eb (ma ρ) fun r => eb (mb ρ) fun d => lift (repK r d) := rfl
@[simp] theorem u_repK (ds : List D) (k : Int) : repK (.ownL ds) (.int k) = if -1000 ≤ k ∧ k ≤ 1000 ∧ ds.length ≤ 1000 then some (.ownL (List.replicate k.toNat ds).flatten) else none := rfl
theorem cut_lo {α : Type} (xs : List α) (n : Nat) : cutD xs (some (n : Int)) none = xs.drop n := by
  simp only [cutD, HT.sIx_none, HT.sIx_nat]
  by_cases h : n ≤ xs.length
  · rw [Nat.min_eq_left h, List.take_of_length_le (by simp)]
  · rw [Nat.min_eq_right (by omega), List.drop_eq_nil_of_le (Nat.le_refl _), List.drop_eq_nil_of_le (show xs.length ≤ n by omega)]; simp
theorem mod_nat (a : Int) (n : Nat) (h : 0 < n) : ∃ k : Nat, a % (n : Int) = k ∧ k < n := by
  have h1 := Int.emod_nonneg a (show (n : Int) ≠ 0 by omega)
  have h2 := Int.emod_lt_of_pos a (show (0 : Int) < (n : Int) by omega)
  exact ⟨(a % (n : Int)).toNat, by omega, by omega⟩
@[simp] theorem ne_00 : neF (.list []) (.list []) = some false := by kernel_rfl
@[simp] theorem eq_00 : eqF (.list []) (.list []) = some true := by kernel_rfl
@[simp] theorem ne_B0 (xs : List Br) : neF (.list (xs.map eB)) (.list []) = some (decide (xs ≠ [])) := (ne_lst xs []).trans (by congr)
@[simp] theorem eq_B0 (xs : List Br) : eqF (.list (xs.map eB)) (.list []) = some (decide (xs = [])) := (eq_lst xs []).trans (by congr)
@[simp] theorem ne_T0 (xs : List (List Br)) : neF (.list (xs.map eBs)) (.list []) = some (decide (xs ≠ [])) := (ne_lst xs []).trans (by congr)
@[simp] theorem eq_T0 (xs : List (List Br)) : eqF (.list (xs.map eBs)) (.list []) = some (decide (xs = [])) := (eq_lst xs []).trans (by congr)
theorem ne_TT (xs ys : List (List Br)) : neF (.list (xs.map eBs)) (.list (ys.map eBs)) = some (decide (xs ≠ ys)) := (ne_lst xs ys).trans (by congr)
theorem eq_TT (xs ys : List (List Br)) : eqF (.list (xs.map eBs)) (.list (ys.map eBs)) = some (decide (xs = ys)) := (eq_lst xs ys).trans (by congr)
theorem ne_BB (xs ys : List Br) : neF (.list (xs.map eB)) (.list (ys.map eB)) = some (decide (xs ≠ ys)) := (ne_lst xs ys).trans (by congr)
theorem eq_BB (xs ys : List Br) : eqF (.list (xs.map eB)) (.list (ys.map eB)) = some (decide (xs = ys)) := (eq_lst xs ys).trans (by congr)
theorem ne_Bt (xs ys : List Br) : neF (eBs xs) (eBs ys) = some (decide (xs ≠ ys)) := (ne_one xs ys).trans (by congr)
theorem eq_Bt (xs ys : List Br) : eqF (eBs xs) (eBs ys) = some (decide (xs = ys)) := (eq_one xs ys).trans (by congr)
theorem ne_Ft (xs ys : List Fl) : neF (eFs xs) (eFs ys) = some (decide (xs ≠ ys)) := (ne_one xs ys).trans (by congr)
theorem eq_Ft (xs ys : List Fl) : eqF (eFs xs) (eFs ys) = some (decide (xs = ys)) := (eq_one xs ys).trans (by congr)
theorem ne_FF (xs ys : List (List Fl)) : neF (.list (xs.map eFs)) (.list (ys.map eFs)) = some (decide (xs ≠ ys)) := (ne_lst xs ys).trans (by congr)
theorem eq_FF (xs ys : List (List Fl)) : eqF (.list (xs.map eFs)) (.list (ys.map eFs)) = some (decide (xs = ys)) := (eq_lst xs ys).trans (by congr)
end TS
/-! A29: one end, one count -/
namespace TS
open PySem PySem.Spec PyProof.Rows L2 En EnK

theorem tear_some {h ps : List Br} {b : Br} (hb : b ∈ h) (hp : ∀ x ∈ line h b, x ∈ ps) : tear h ps b = some (line h b) := if_pos ⟨hb, hp⟩
/-- what is a tear's is the tear of each of its borders -/
theorem tear_of_mem {h ps t : List Br} (hb : BdB h) (ht : t ∈ tears h ps) {x : Br} (hx : x ∈ t) : tear h ps x = some t := by
  obtain ⟨b, _, e⟩ := (tears_mem _ _ _).mp ht
  obtain ⟨rfl, hbh, hp⟩ := tear_line e
  have c := (line_mem hb b x).mp hx
  have e2 := line_eq hb c
  rw [e2] at hp ⊢
  exact tear_some (c.in hbh) hp
theorem tear_mem {h ps t : List Br} {b : Br} (e : tear h ps b = some t) : t ∈ tears h ps := by
  refine (tears_mem _ _ _).mpr ⟨b, ?_, e⟩
  obtain ⟨rfl, _, hp⟩ := tear_line e
  exact hp b (line_self h b)
theorem tears_nil {h ps : List Br} : tears h ps = [] ↔ ∀ b, tear h ps b = none := by
  constructor
  · intro e b
    cases q : tear h ps b with
    | none => rfl
    | some t => have := tear_mem q; rw [e] at this; cases this
  · intro e
    refine List.eq_nil_iff_forall_not_mem.mpr fun t ht => ?_
    obtain ⟨b, _, e2⟩ := (tears_mem _ _ _).mp ht
    rw [e b] at e2; cases e2
theorem line_mono {h h' : List Br} (hb : BdB h) (s : ∀ b ∈ h', b ∈ h) (b x : Br) (hx : x ∈ line h' b) : x ∈ line h b := by
  rw [line_mem (hb.sub s)] at hx
  rw [line_mem hb]
  exact hx.mono s
/-- what can be torn can be torn later, too, as long as it hangs -/
theorem tear_mono {h h' ps ps' t : List Br} (hb : BdB h) (s : ∀ b ∈ h', b ∈ h) (sp : ∀ b ∈ ps, b ∈ ps') {b : Br} (e : tear h ps b = some t) (hm : b ∈ h') : tear h' ps' b = some (line h' b) := by
  obtain ⟨rfl, _, hp⟩ := tear_line e
  exact tear_some hm fun x hx => sp x (hp x (line_mono hb s b x hx))
/-- tears made, one by one -/
inductive Tears (ps h : List Br) : Nat → List Br → Prop
  | refl : Tears ps h 0 h
  | step {h' t : List Br} {n : Nat} : Tears ps h n h' → t ∈ tears h' ps → Tears ps h (n + 1) (cutH h' t)
theorem Tears.cut {ps h h' : List Br} {n : Nat} (r : Tears ps h n h') : ∃ T, h' = cutH h T := by
  induction r with
  | refl => exact ⟨[], (cutH_nil h).symm⟩
  | step _ _ ih => obtain ⟨T, rfl⟩ := ih; exact ⟨_, cutH_cut _ _ _⟩
theorem Tears.sub {ps h h' : List Br} {n : Nat} (r : Tears ps h n h') : ∀ b ∈ h', b ∈ h := by
  obtain ⟨T, rfl⟩ := r.cut
  exact fun b hb => ((cutH_mem _ _ _).mp hb).1
theorem Tears.trans {ps h h1 h2 : List Br} {n m : Nat} (r : Tears ps h n h1) (q : Tears ps h1 m h2) : Tears ps h (n + m) h2 := by
  induction q with
  | refl => exact r
  | step _ ht ih => exact ih.step ht
/-- what hangs at an end hangs behind whatever tears -/
theorem end_sub {ps ps' h h1 h2 : List Br} {n : Nat} (hb : BdB h) (r : Tears ps h n h1) (sp : ∀ b ∈ ps, b ∈ ps') (s : ∀ b ∈ h2, b ∈ h) (e : tears h2 ps' = []) : ∀ b ∈ h2, b ∈ h1 := by
  induction r with
  | refl => exact s
  | @step h' t _ r' ht ih =>
    intro x hx
    have h1 := ih
    rw [cutH_mem]
    refine ⟨h1 x hx, fun hxt => ?_⟩
    have hb' : BdB _ := hb.sub r'.sub
    have e1 := tear_of_mem hb' ht hxt
    have e2 := tear_mono hb' h1 sp e1 hx
    rw [tears_nil.mp e x] at e2; cases e2
theorem cutH_eq {h T1 T2 : List Br} (s : ∀ b, b ∈ cutH h T1 ↔ b ∈ cutH h T2) : cutH h T1 = cutH h T2 := by
  refine List.filter_congr fun x hx => ?_
  have := s x
  rw [cutH_mem, cutH_mem] at this
  by_cases q1 : x ∈ T1 <;> by_cases q2 : x ∈ T2 <;> simp_all
/-- there is one end -/
theorem one_end {ps h h1 h2 : List Br} {n m : Nat} (hb : BdB h) (r1 : Tears ps h n h1) (e1 : tears h1 ps = []) (r2 : Tears ps h m h2) (e2 : tears h2 ps = []) : h1 = h2 := by
  have s1 := end_sub hb r2 (fun b hb => hb) r1.sub e1
  have s2 := end_sub hb r1 (fun b hb => hb) r2.sub e2
  obtain ⟨T1, rfl⟩ := r1.cut
  obtain ⟨T2, rfl⟩ := r2.cut
  exact cutH_eq fun b => ⟨s1 b, s2 b⟩
/-- whole corners -/
def wcL (h : List Br) : List Fl := (addT [] (h.flatMap fun b => [cnA b, cnZ b])).filter fun c => whole4 h c
theorem wcL_nodup (h : List Br) : (wcL h).Nodup := List.Pairwise.filter _ (addT_nodup _ _ (by simp))
theorem whole_in {h : List Br} {c : Fl} (q : whole4 h c = true) : ∃ b ∈ h, cnZ b = c := by
  rw [whole4_iff] at q
  refine ⟨(false, c.1 - 1, c.2 - 1), q _ (by simp [four]), ?_⟩
  simp [cnZ]
theorem wcL_mem (h : List Br) (c : Fl) : c ∈ wcL h ↔ whole4 h c = true := by
  rw [wcL, List.mem_filter]
  constructor
  · exact fun z => z.2
  · intro q
    refine ⟨?_, q⟩
    obtain ⟨b, hb, rfl⟩ := whole_in q
    rw [addT_mem]
    exact .inr (List.mem_flatMap.mpr ⟨b, hb, by simp⟩)
theorem four_end {c : Fl} {x : Br} (h : x ∈ four c) : c = cnA x ∨ c = cnZ x := by
  simp only [four, List.mem_cons, List.not_mem_nil, or_false] at h
  rcases h with rfl | rfl | rfl | rfl <;> simp [cnA, cnZ]
theorem end_four (x : Br) : x ∈ four (cnZ x) ∧ x ∈ four (cnA x) := by
  obtain ⟨w, a, b⟩ := x
  cases w <;> simp [four, cnA, cnZ]
theorem cut_len {h t : List Br} (hn : h.Nodup) (tn : t.Nodup) (s : ∀ x ∈ t, x ∈ h) : (cutH h t).length + t.length = h.length := by
  have p : h.Perm (cutH h t ++ t) := perm_of hn (by
    rw [List.nodup_append]
    exact ⟨List.Pairwise.filter _ hn, tn, fun a ha b hb e => ((cutH_mem _ _ _).mp ha).2 (e ▸ hb)⟩) fun x => by
      rw [List.mem_append, cutH_mem]
      constructor
      · intro hx
        by_cases q : x ∈ t
        · exact .inr q
        · exact .inl ⟨hx, q⟩
      · exact fun z => z.elim (fun z => z.1) (s x)
  rw [p.length_eq, List.length_append]
theorem filter_ne_lenG {α : Type} [DecidableEq α] {fs : List α} {g : α} (h : fs.Nodup) (hg : g ∈ fs) : (fs.filter (fun x => decide (x ≠ g))).length + 1 = fs.length := by
  have e : fs.filter (fun x => decide (x ≠ g)) = fs.erase g := by
    rw [h.erase_eq_filter]; exact List.filter_congr fun x _ => by by_cases q : x = g <;> simp [q]
  rw [e, List.length_erase_of_mem hg]
  have := List.length_pos_of_mem hg; omega
/-- the last of a line -/
theorem line_last {h : List Br} (hb : BdB h) (b : Br) : ∃ z ∈ line h b, ∀ x ∈ line h b, (whole4 h (cnZ x) = true ↔ x ≠ z) := by
  have hne : line h b ≠ [] := fun e => by have := line_self h b; rw [e] at this; cases this
  obtain ⟨z, hz, hmax⟩ := max_of along (line h b) hne
  refine ⟨z, hz, fun x hx => ⟨fun q e => ?_, fun hne => ?_⟩⟩
  · subst e
    have c : Co h x (nxt x 1) := ⟨1, rfl, fun i hi => by
      have : i = 0 := by omega
      subst this
      show whole4 h (cnZ (nxt x 0)) = true
      rw [nxt_0]; exact q⟩
    have := hmax (nxt x 1) ((line_mem hb b _).mpr (((line_mem hb b x).mp hx).trans c))
    rw [along_nxt] at this; omega
  · obtain ⟨k, hk, hw⟩ := ((line_mem hb b x).mp hx).symm.trans ((line_mem hb b z).mp hz)
    have h1 := hmax x hx
    rw [hk, along_nxt] at h1
    have h0 : k ≠ 0 := fun e => hne (by rw [hk, e, nxt_0])
    have := hw 0 (by omega)
    simp only [Wh, nxt_0] at this
    exact this
theorem cnZ_inj {h : List Br} {b x y : Br} (hx : Co h b x) (hy : Co h b y) (e : cnZ x = cnZ y) : x = y := by
  obtain ⟨k, rfl, _⟩ := hx
  obtain ⟨l, rfl, _⟩ := hy
  obtain ⟨w, u, v⟩ := b
  cases w <;> simp [nxt, cnZ] at e ⊢ <;> omega
/-- behind a tear there are as many whole corners fewer as it has borders, less one -/
theorem wc_cut {h ps t : List Br} (hb : BdB h) (ht : t ∈ tears h ps) : (wcL h).length + 1 = (wcL (cutH h t)).length + t.length := by
  obtain ⟨b, _, e⟩ := (tears_mem _ _ _).mp ht
  obtain ⟨el, hbh, _⟩ := tear_line e
  subst el
  obtain ⟨z, hz, hlast⟩ := line_last hb b
  have hnd := line_nodup hb b
  have hf := filter_ne_lenG hnd hz
  let P : Fl → Bool := fun c => (four c).any fun x => decide (x ∈ line h b)
  have hP : ∀ c, P c = true ↔ ∃ x ∈ four c, x ∈ line h b := fun c => by simp [P]
  have p1 : ((wcL h).filter P).Perm (((line h b).filter fun x => decide (x ≠ z)).map cnZ) := perm_of (List.Pairwise.filter _ (wcL_nodup h)) (by
    refine List.pairwise_map.mpr (List.Pairwise.imp_of_mem ?_ (List.Pairwise.filter _ hnd))
    intro x y hx hy hne e
    exact hne (cnZ_inj ((line_mem hb b x).mp (List.mem_filter.mp hx).1) ((line_mem hb b y).mp (List.mem_filter.mp hy).1) e)) fun c => by
    rw [List.mem_filter, wcL_mem, hP, List.mem_map]
    constructor
    · rintro ⟨q, x, hx4, hxl⟩
      rcases four_end hx4 with rfl | rfl
      · have e2 : cnA x = cnZ (nxt x (-1)) := by rw [← cn_nxt]; simp [nxt_0]
        rw [e2] at q
        have c1 : Co h x (nxt x (-1)) := ⟨-1, rfl, fun i hi => by
          have : i = -1 := by omega
          subst this; exact q⟩
        have hm : nxt x (-1) ∈ line h b := (line_mem hb b _).mpr (((line_mem hb b x).mp hxl).trans c1)
        exact ⟨nxt x (-1), List.mem_filter.mpr ⟨hm, decide_eq_true ((hlast _ hm).mp q)⟩, e2.symm⟩
      · exact ⟨x, List.mem_filter.mpr ⟨hxl, decide_eq_true ((hlast x hxl).mp q)⟩, rfl⟩
    · rintro ⟨x, hx, rfl⟩
      obtain ⟨hxl, hne⟩ := List.mem_filter.mp hx
      exact ⟨(hlast x hxl).mpr (of_decide_eq_true hne), x, (end_four x).1, hxl⟩
  have p2 : ((wcL h).filter fun c => !P c).Perm (wcL (cutH h (line h b))) := perm_of (List.Pairwise.filter _ (wcL_nodup h)) (wcL_nodup _) fun c => by
    rw [List.mem_filter, wcL_mem, wcL_mem, Bool.not_eq_true', ← Bool.not_eq_true, hP]
    constructor
    · rintro ⟨q, no⟩
      rw [whole4_iff] at q ⊢
      exact fun x hx => (cutH_mem _ _ _).mpr ⟨q x hx, fun z => no ⟨x, hx, z⟩⟩
    · intro q
      rw [whole4_iff] at q ⊢
      exact ⟨fun x hx => ((cutH_mem _ _ _).mp (q x hx)).1, fun ⟨x, hx, z⟩ => ((cutH_mem _ _ _).mp (q x hx)).2 z⟩
  have p3 : (wcL h).Perm ((wcL h).filter P ++ (wcL h).filter fun c => !P c) := perm_of (wcL_nodup h) (by
    rw [List.nodup_append]
    refine ⟨List.Pairwise.filter _ (wcL_nodup h), List.Pairwise.filter _ (wcL_nodup h), fun a ha c hc e => ?_⟩
    have h1 := (List.mem_filter.mp ha).2
    have h2 := (List.mem_filter.mp hc).2
    rw [← e, h1] at h2; cases h2) fun c => by
    rw [List.mem_append, List.mem_filter, List.mem_filter]
    cases P c <;> simp
  have l1 := p1.length_eq
  have l2 := p2.length_eq
  have l3 := p3.length_eq
  rw [List.length_map] at l1
  rw [List.length_append] at l3
  omega
/-- the measure -/
def ms (n : Nat) (h : List Br) : Int := (n : Int) - (h.length : Int) + ((wcL h).length : Int)
theorem ms_tear {h ps t : List Br} (n : Nat) (hb : BdB h) (hn : h.Nodup) (ht : t ∈ tears h ps) : ms n (cutH h t) = ms n h + 1 := by
  have h1 := wc_cut hb ht
  obtain ⟨b, _, e⟩ := (tears_mem _ _ _).mp ht
  obtain ⟨el, hbh, _⟩ := tear_line e
  have h2 := cut_len hn (by rw [el]; exact line_nodup hb b) (fun x hx => line_sub hb hbh (by rw [el] at hx; exact hx)) (t := t)
  simp only [ms]; omega
theorem cut_nodup {h : List Br} (hn : h.Nodup) (t : List Br) : (cutH h t).Nodup := List.Pairwise.filter _ hn
theorem Tears.nodup {ps h h' : List Br} {n : Nat} (hn : h.Nodup) (r : Tears ps h n h') : h'.Nodup := by
  obtain ⟨T, rfl⟩ := r.cut; exact cut_nodup hn T
theorem Tears.ms {ps h h' : List Br} {n : Nat} (m : Nat) (hb : BdB h) (hn : h.Nodup) (r : Tears ps h n h') : TS.ms m h' = TS.ms m h + n := by
  induction r with
  | refl => simp
  | step r ht ih =>
    rw [ms_tear m (hb.sub r.sub) (r.nodup hn) ht, ih]; push_cast; omega
/-- the row leads to the end -/
theorem rowF_end (ps : List Br) : ∀ (n : Nat) (h : List Br), h.length = n → Tears ps h (rowF h ps).1.length (rowF h ps).2 ∧ tears (rowF h ps).2 ps = [] := by
  intro n
  induction n using Nat.strongRecOn with
  | _ n ih =>
    intro h e
    cases q : tears h ps with
    | nil => rw [rowF_nil q]; exact ⟨.refl, q⟩
    | cons t ts =>
      have ht : t ∈ tears h ps := by rw [q]; simp
      have hlt := cutH_lt ht
      obtain ⟨r, e2⟩ := ih _ (by omega) (cutH h t) rfl
      rw [rowF_cons q]
      refine ⟨?_, e2⟩
      have := (Tears.refl.step ht).trans r
      simpa [Nat.add_comm] using this
end TS
/-! A30: the measure told -/
namespace TS
open PySem PySem.Spec PyProof.Rows L2 En EnK

theorem addT_app {α : Type} [DecidableEq α] (acc xs ys : List α) : addT acc (xs ++ ys) = addT (addT acc xs) ys := by simp [addT, List.foldl_append]
theorem mDcI_of {β γ : Type} [DecidableEq γ] [EnK γ] (enc1 : β → D) (f : β → γ) {t1 : Tgt} {vs1 : List Nat} {km vm : OM} {ρ1 : Regs} : ∀ (ys : List β) (acc : List γ), acc.length + ys.length ≤ 1000 → (∀ b ∈ ys, ∃ ρ2, tgtM t1 (enc1 b) (wipeR ρ1 vs1) = some ρ2 ∧ km ρ2 = ok (en (f b)) ∧ vm ρ2 = ok (.bool true)) →
    mDcI t1 vs1 km vm ρ1 (ys.map enc1) (kvT acc) = some (kvT (addT acc (ys.map f)))
  | [], acc, _, _ => rfl
  | b :: ys, acc, hl, h => by
    obtain ⟨ρ2, h1, h2, h3⟩ := h b List.mem_cons_self
    simp only [List.length_cons] at hl
    have hk : (kvT acc).length < 1000 := by simp only [kvT, List.length_map]; omega
    rw [List.map_cons, mDcI, h1]
    simp only [h2, h3, ok, kof, hk, if_true, dPut_kvT]
    rw [mDcI_of enc1 f ys _ (by split <;> (try simp only [List.length_append, List.length_cons, List.length_nil]) <;> omega) fun c hc => h c (List.mem_cons_of_mem _ hc)]
    rfl
theorem mDc2_of {α β γ : Type} [DecidableEq γ] [EnK γ] (enc : α → D) (enc1 : β → D) (F : α → List β) (f : α → β → γ) {t t1 : Tgt} {vs vs1 : List Nat} {it1 : LM} {km vm : OM} {ρ : Regs} : ∀ (xs : List α) (acc : List γ), acc.length + (xs.flatMap F).length ≤ 1000 →
    (∀ a ∈ xs, ∃ ρ1, tgtM t (enc a) (wipeR ρ vs) = some ρ1 ∧ plainAt ρ1 vs = true ∧ it1 ρ1 = ok ((F a).map enc1) ∧ ∀ b ∈ F a, ∃ ρ2, tgtM t1 (enc1 b) (wipeR ρ1 vs1) = some ρ2 ∧ km ρ2 = ok (en (f a b)) ∧ vm ρ2 = ok (.bool true)) →
    mDc2 t vs it1 t1 vs1 km vm ρ (xs.map enc) (kvT acc) = some (kvT (addT acc (xs.flatMap fun a => (F a).map (f a))))
  | [], acc, _, _ => rfl
  | a :: xs, acc, hl, h => by
    obtain ⟨ρ1, h1, h2, h3, h4⟩ := h a List.mem_cons_self
    simp only [List.flatMap_cons, List.length_append] at hl
    have hI := mDcI_of enc1 (f a) (F a) acc (by omega) h4
    have hle := addT_len ((F a).map (f a)) acc
    rw [List.length_map] at hle
    rw [List.map_cons, mDc2, h1]
    simp only [h2, if_true, h3, ok, hI]
    rw [mDc2_of enc enc1 F f xs _ (by omega) fun b hb => h b (List.mem_cons_of_mem _ hb), List.flatMap_cons, addT_app]
theorem eDc2_of {α β γ : Type} [DecidableEq γ] [EnK γ] (enc : α → D) (enc1 : β → D) (F : α → List β) (f : α → β → γ) {t t1 : Tgt} {vs vs1 : List Nat} {it it1 : LM} {km vm : OM} {ρ : Regs} (xs : List α) (hi : it ρ = ok (xs.map enc)) (hp : plainAt ρ vs = true) (hl : (xs.flatMap F).length ≤ 1000)
    (h : ∀ a ∈ xs, ∃ ρ1, tgtM t (enc a) (wipeR ρ vs) = some ρ1 ∧ plainAt ρ1 vs = true ∧ it1 ρ1 = ok ((F a).map enc1) ∧ ∀ b ∈ F a, ∃ ρ2, tgtM t1 (enc1 b) (wipeR ρ1 vs1) = some ρ2 ∧ km ρ2 = ok (en (f a b)) ∧ vm ρ2 = ok (.bool true)) :
    eDc2 t vs it it1 t1 vs1 km vm ρ = ok (.ownD (kvT (addT [] (xs.flatMap fun a => (F a).map (f a))))) := by
  have := mDc2_of enc enc1 F f (t := t) (t1 := t1) (vs := vs) (vs1 := vs1) (it1 := it1) (km := km) (vm := vm) (ρ := ρ) xs [] (by simpa using hl) h
  simp only [kvT, List.map_nil] at this
  simp only [eDc2, hi, eb_ok, hp, if_true, this]
  rfl
@[simp] theorem fst_B (xs : List Br) : (kvT xs).map (fun x => x.fst) = xs.map eB := by simp only [kvT, List.map_map]; rfl
@[simp] theorem fst_F (xs : List Fl) : (kvT xs).map (fun x => x.fst) = xs.map eF := by simp only [kvT, List.map_map]; rfl
@[simp] theorem kvT_lenG {α : Type} [DecidableEq α] [EnK α] (xs : List α) : (kvT xs).length = xs.length := by simp [kvT]
theorem keys_F (fs : List Fl) : itF (.dict (kvT fs)) = some (fs.map eF) := by
  simp only [itF, kvT, List.map_map]; rfl
@[simp] theorem u_lenD (kvs : List (D × D)) : lenF [.dict kvs] = some (.val (.int kvs.length)) := rfl
theorem fm_corners_of_eq (h : List Br) (hl : h.length ≤ 200) : fm_corners_of [.dict (kvT h)] = ok (.val (.int (wcL h).length)) := by
  have fl : (h.flatMap fun b => [cnA b, cnZ b]).length = 2 * h.length := by
    induction h with
    | nil => rfl
    | cons b h ih => simp only [List.flatMap_cons, List.length_append, List.length_cons, List.length_nil] at ih ⊢; rw [ih (by simp at hl; omega)]; omega
  have e1 := eDc2_of (α := Br) (β := Fl) (γ := Fl) eB eF (fun b => [cnA b, cnZ b]) (fun _ c => c) (t := .one 2) (t1 := .one 3) (vs := [2, 3]) (vs1 := [3]) (it := iA (vVar 0)) (it1 := iA (oE (eCall 1 fm_corners_at (lCons (oVar 2) (lNil))))) (km := vVar 3) (vm := oC (.bool true)) (ρ := [some (.val (.dict (kvT h))), none, none, none]) h (by simp [keys_B]) (by simp) (by omega) (fun b _ => ⟨_, rfl, by simp, by simp [fm_corners_at_eq], fun c _ => ⟨_, rfl, by simp; rfl, by simp⟩⟩)
  have e1' : eDc2 (.one 2) [2, 3] (iA (vVar 0)) (iA (oE (eCall 1 fm_corners_at (lCons (oVar 2) (lNil))))) (.one 3) [3] (vVar 3) (oC (.bool true)) [some (.val (.dict (kvT h))), none, none, none] = ok (.ownD (kvT (addT [] (h.flatMap fun b => [cnA b, cnZ b])))) := by
    rw [e1]; congr 3
  have hle := addT_len (h.flatMap fun b => [cnA b, cnZ b]) []
  simp only [List.length_nil] at hle
  have e2 := eLc_of (α := Fl) eF (fun c => whole4 h c) eF (t := .one 3) (vs := [3]) (it := iA (vVar 1)) (c := bT (oE (eCall 2 fm_is_whole_corner (lCons (oVar 0) (lCons (oVar 3) (lNil)))))) (e := vVar 3) (ρ := [some (.val (.dict (kvT h))), some (.val (.dict (kvT (addT [] (h.flatMap fun b => [cnA b, cnZ b]))))), none, none]) (addT [] (h.flatMap fun b => [cnA b, cnZ b])) (by simp [keys_F]) (by simp) (by omega) (fun c _ => ⟨_, rfl, by simp [fm_is_whole_corner_g _ h c (nin_dB h)], fun _ => by simp⟩)
  simp [fm_corners_of, m_corners_of, e1', e2]
  rfl
theorem fm_measure_of_eq (fs : List Fl) (h : List Br) (hl : h.length ≤ 200) : fm_measure_of [eFs fs, .dict (kvT h)] = ok (.val (.int (ms fs.length h))) := by
  simp [fm_measure_of, m_measure_of, fm_corners_of_eq h hl, kvT_lenG, ms]
end TS
/-! A31: what is left, who wins, what is idle -/
namespace TS
open PySem PySem.Spec PyProof.Rows L2 En EnK

theorem Gd.nodH {fs : List Fl} {ps : List Br} (g : Gd fs ps) (tn : List Br) : (hang fs tn).Nodup := hang_nodup fs tn g.nd
/-- what is come to by tears is what hangs by some torn borders -/
theorem reach_hang {fs : List Fl} {ps tn h' : List Br} {n : Nat} (g : Gd fs ps) (t : Tn ps tn) (r : Tears ps (hang fs tn) n h') : ∃ tn', Tn ps tn' ∧ h' = hang fs tn' ∧ ∀ x ∈ tn, x ∈ tn' := by
  induction r with
  | refl => exact ⟨tn, t, rfl, fun x hx => hx⟩
  | step r ht ih =>
    obtain ⟨tn', t', rfl, hs⟩ := ih
    obtain ⟨b, _, e⟩ := (tears_mem _ _ _).mp ht
    exact ⟨_, t'.step g e, (hang_cut _ _ _).symm, fun x hx => (sE_mem _ _).mpr (List.mem_append_left _ (hs x hx))⟩
/-- the torn borders at the end -/
def endT (fs : List Fl) (ps tn : List Br) : List Br := goneF (endH fs ps tn) ps
theorem endT_spec {fs : List Fl} {ps tn : List Br} (g : Gd fs ps) (t : Tn ps tn) : Tn ps (endT fs ps tn) ∧ endH fs ps tn = hang fs (endT fs ps tn) ∧ Tears ps (hang fs tn) (rowF (hang fs tn) ps).1.length (hang fs (endT fs ps tn)) ∧ tears (hang fs (endT fs ps tn)) ps = [] := by
  obtain ⟨r, e⟩ := rowF_end ps _ (hang fs tn) rfl
  obtain ⟨tn', t', e', _⟩ := reach_hang g t r
  have h1 : endH fs ps tn = hang fs tn' := e'
  have h2 : endT fs ps tn = tn' := by rw [endT, h1]; exact gone_hang g t'
  rw [h2, ← h1]
  exact ⟨t', rfl, r, e⟩
/-- how many tears are to come -/
def leftN (fs : List Fl) (ps tn : List Br) : Nat := (rowF (hang fs tn) ps).1.length
theorem fm_left_of_eq {fs : List Fl} {ps tn : List Br} (g : Gd fs ps) (t : Tn ps tn) : fm_left_of [eS fs ps, eBs tn] = ok (.val (.int (leftN fs ps tn))) := by
  obtain ⟨t', e1, r, e2⟩ := endT_spec g t
  have H1 := fm_first_row_eq g (tn := tn) (by have := t.len g; omega)
  have e3 : goneF (endH fs ps tn) ps = endT fs ps tn := rfl
  rw [e3] at H1
  have hl := g.le
  have H2 := fm_hanging_of_eq fs ps (endT fs ps tn) (by omega) (by have := t'.len g; omega) g.nd
  have H3 := fm_hanging_of_eq fs ps tn (by omega) (by have := t.len g; omega) g.nd
  have l1 := hang_len fs (endT fs ps tn)
  have l2 := hang_len fs tn
  have H4 := fm_measure_of_eq fs (hang fs (endT fs ps tn)) (by omega)
  have H5 := fm_measure_of_eq fs (hang fs tn) (by omega)
  have hm := r.ms fs.length (g.bdH tn) (g.nodH tn)
  have hm2 : ms fs.length (hang fs (endT fs ps tn)) - ms fs.length (hang fs tn) = (leftN fs ps tn : Nat) := by rw [hm, leftN]; omega
  simp [fm_left_of, m_left_of, H1, H2, H3, H4, H5, hm2]
theorem fm_left_eq {fs : List Fl} {ps tn : List Br} (g : Gd fs ps) (t : Tn ps tn) : fm_left [eS fs ps, eBs tn] = ok (.val (.int (leftN fs ps tn))) := by
  simp [fm_left, m_left, fm_look_torn_ok g t, fm_left_of_eq g t]
theorem fm_measure_eq {fs : List Fl} {ps tn : List Br} (g : Gd fs ps) (t : Tn ps tn) : fm_measure [eS fs ps, eBs tn] = ok (.val (.int (ms fs.length (hang fs tn)))) := by
  have hl := g.le
  have H3 := fm_hanging_of_eq fs ps tn (by omega) (by have := t.len g; omega) g.nd
  have l2 := hang_len fs tn
  have H5 := fm_measure_of_eq fs (hang fs tn) (by omega)
  simp [fm_measure, m_measure, fm_look_torn_ok g t, H3, H5]
theorem fm_winner_eq {fs : List Fl} {ps : List Br} (g : Gd fs ps) : fm_winner [eS fs ps] = ok (.val (.int (if leftN fs ps [] % 2 = 1 then 0 else 1))) := by
  have h := fm_left_of_eq g (Tn.nil ps)
  rw [eBs_nil] at h
  have e : ((leftN fs ps [] : Int) % 2 = 1) ↔ leftN fs ps [] % 2 = 1 := by omega
  simp [fm_winner, m_winner, fm_look_ok g, h, e, ok_ite, int_ite]
theorem fm_idle_eq {fs : List Fl} {ps : List Br} (g : Gd fs ps) : fm_idle [eS fs ps] = ok (.ownL ((ps.filter fun b => decide (b ∉ endT fs ps [])).map eB)) := by
  have H := fm_end_torn_eq g
  rw [show goneF (endH fs ps []) ps = endT fs ps [] from rfl] at H
  have lc := eLc_of (α := Br) eB (fun b => decide (b ∉ endT fs ps [])) eB (t := .one 2) (vs := [2]) (it := iA (o2 idxF (vVar 0) (oC (.int 1)))) (c := b2 notInF (oVar 2) (oVar 1)) (e := vVar 2) (ρ := [some (.val (eS fs ps)), some (.val (eBs (endT fs ps []))), none]) ps (by simp) (by simp) (by have := g.plen; omega) (fun d hd => ⟨_, rfl, by simp [eBs], fun _ => by simp⟩)
  simp [fm_idle, m_idle, fm_look_ok g, H, lc]
/-- from the start -/
def Fr (fs : List Fl) (ps : List Br) (n : Nat) (tn : List Br) : Prop := Tn ps tn ∧ Tears ps (inner fs) n (hang fs tn)
theorem Fr.nil (fs : List Fl) (ps : List Br) : Fr fs ps 0 [] := ⟨Tn.nil ps, by rw [hang_nil]; exact .refl⟩
theorem Fr.step {fs : List Fl} {ps tn u : List Br} {n : Nat} (g : Gd fs ps) (f : Fr fs ps n tn) (hu : u ∈ tears (hang fs tn) ps) : Fr fs ps (n + 1) (sE (tn ++ u)) := by
  obtain ⟨b, _, e⟩ := (tears_mem _ _ _).mp hu
  exact ⟨f.1.step g e, by rw [hang_cut]; exact f.2.step hu⟩
theorem hang_inj {fs : List Fl} {ps tn tn' : List Br} (g : Gd fs ps) (t : Tn ps tn) (t' : Tn ps tn') (e : hang fs tn = hang fs tn') : tn = tn' := by
  rw [← gone_hang g t, ← gone_hang g t', e]
/-- there is one end: the same torn borders, and as many tears -/
theorem Fr.end {fs : List Fl} {ps tn : List Br} {n : Nat} (g : Gd fs ps) (f : Fr fs ps n tn) : endT fs ps tn = endT fs ps [] ∧ n + leftN fs ps tn = leftN fs ps [] := by
  obtain ⟨t1, _, r1, e1⟩ := endT_spec g f.1
  obtain ⟨t2, _, r2, e2⟩ := endT_spec g (Tn.nil ps)
  rw [hang_nil] at r2
  have r3 := f.2.trans r1
  have e := one_end g.bdI r3 e1 r2 e2
  have m1 := r3.ms 0 g.bdI (inner_nodup fs g.nd)
  have m2 := r2.ms 0 g.bdI (inner_nodup fs g.nd)
  rw [e, m2] at m1
  refine ⟨hang_inj g t1 t2 e, ?_⟩
  have : leftN fs ps [] = (rowF (inner fs) ps).1.length := by rw [leftN, hang_nil]
  rw [this, leftN]; omega
theorem left_0 {fs : List Fl} {ps tn : List Br} (e : tears (hang fs tn) ps = []) : leftN fs ps tn = 0 := by rw [leftN, rowF_nil e]; rfl
theorem end_is {fs : List Fl} {ps tn : List Br} (g : Gd fs ps) (t : Tn ps tn) (e : tears (hang fs tn) ps = []) : endT fs ps tn = tn := by
  rw [endT, endH, rowF_nil e]; exact gone_hang g t
end TS
/-! A32: the laws' own tears, made one by one -/
namespace TS
open PySem PySem.Spec PyProof.Rows L2 En EnK

theorem nin_lT (xs : List (List Br)) (a : List Br) : notInF (eBs a) (.list (xs.map eBs)) = some (decide (a ∉ xs)) := (nin_lst xs a).trans (by congr)
theorem fm_law_tears_eq {fs : List Fl} {ps : List Br} (g : Gd fs ps) (tn : List Br) : fm_law_tears [eS fs ps, eBs tn] = ok (.ownL ((tears (hang fs tn) ps).map eBs)) := by
  have hl := g.le
  have hp := g.plen
  have H1 := fm_law_hang_eq fs ps tn (by omega) g.nd
  have H2 := fun b => fm_law_tear_eq (.list ((hang fs tn).map eB)) (hang fs tn) fs ps b (nin_lB (hang fs tn)) (g.bdH tn)
  have hbd := g.bdH tn
  generalize hang fs tn = h at *
  obtain ⟨ρ', h1, a4, a5, rfl⟩ := mFor_of (α := Br) eB (t := .one 4) (m := mb_law_tears_1) (fun pre ρ => ∃ a4 a5, ρ = [some (.val (eS fs ps)), some (.val (eBs tn)), some (.ownL (h.map eB)), some (.ownL ((addT [] (pre.filterMap (tear h ps))).map eBs)), a4, a5]) ps (by
    rintro pre a post ρ ee ⟨a4, a5, rfl⟩
    refine ⟨_, [some (.val (eS fs ps)), some (.val (eBs tn)), some (.ownL (h.map eB)), some (.ownL ((addT [] ((pre ++ [a]).filterMap (tear h ps))).map eBs)), some (.val (eB a)), some (.val (oT (tear h ps a)))], rfl, ?_, _, _, rfl⟩
    have ht := H2 a
    have hlen : (addT [] (pre.filterMap (tear h ps))).length < 1000 := by
      have h1 := addT_len (pre.filterMap (tear h ps)) []
      have h2 := List.length_filterMap_le (tear h ps) pre
      have h3 : pre.length ≤ ps.length := by rw [← ee]; simp
      simp only [List.length_nil] at h1
      omega
    rw [filterMap_snoc]
    cases q : tear h ps a with
    | none =>
      rw [q] at ht
      simp [mb_law_tears_1, ht, oT]
    | some t =>
      rw [q] at ht
      simp only [Option.toList_some]
      rw [addT_snoc]
      generalize addT [] (pre.filterMap (tear h ps)) = acc at hlen
      by_cases q2 : t ∈ acc
      · rw [if_pos q2]
        simp [mb_law_tears_1, ht, oT, nin_lT, q2]
      · rw [if_neg q2]
        simp [mb_law_tears_1, ht, oT, nin_lT, q2, hlen]) [some (.val (eS fs ps)), some (.val (eBs tn)), some (.ownL (h.map eB)), some (.ownL []), none, none] ⟨none, none, by simp [addT]⟩
  have h1' : mFor (.one 4) mb_law_tears_1 (ps.map eB) [some (.val (eS fs ps)), some (.val (eBs tn)), some (.ownL (h.map eB)), some (.ownL []), none, none] = some (.nx [some (.val (eS fs ps)), some (.val (eBs tn)), some (.ownL (h.map eB)), some (.ownL ((tearsU h ps).map eBs)), a4, a5]) := h1
  have hl2 := tearsU_len h ps
  have hs : sortedF [.list ((tearsU h ps).map eBs)] = some (.ownL ((tears h ps).map eBs)) := sorted_lH (α := List Br) (tearsU h ps) (by omega) (fun t ht => tupNE_T (tears_ne ((sE_mem _ _).mpr ht)))
  simp [fm_law_tears, m_law_tears, H1, h1', hs]
/-- a tear drawn -/
theorem draw_tear {h ps : List Br} (k : Int) (hne : tears h ps ≠ []) : ∃ u ∈ tears h ps, atI ((tears h ps).map eBs) (k % ((tears h ps).length : Int)) = some (eBs u) := by
  obtain ⟨u, hu, e⟩ := at_mod (tears h ps) k (List.length_pos_iff.mpr hne)
  exact ⟨u, hu, at_mod_map eBs _ _ u e⟩
theorem tear_len {fs : List Fl} {ps tn u : List Br} (g : Gd fs ps) (hu : u ∈ tears (hang fs tn) ps) : u.length ≤ 19 := by
  obtain ⟨b, _, e⟩ := (tears_mem _ _ _).mp hu
  rw [(tear_line e).1]
  exact line_len (g.bdH tn) b
/-- tuple(sorted(tn + u)) -/
theorem join_B (tn u : List Br) (h1 : tn.length ≤ 100) (h2 : u.length ≤ 100) : addF (eBs tn) (eBs u) = some (.val (eBs (tn ++ u))) ∧ sortedF [eBs (tn ++ u)] = some (.ownL ((sE (tn ++ u)).map eB)) ∧ tupleF [.list ((sE (tn ++ u)).map eB)] = some (.val (eBs (sE (tn ++ u)))) :=
  ⟨by simp [eBs, addF]; omega, sorted_t (tn ++ u) (by simp; omega), tup_B (sE (tn ++ u)) (by rw [sE_len]; simp; omega)⟩
theorem fm_law_torn_eq {fs : List Fl} {ps : List Br} (g : Gd fs ps) (sc : List Int) (k : Int) (hk : 0 ≤ k) : ∃ tn n, Fr fs ps n tn ∧ fm_law_torn [.list (sc.map .int), .int k, eS fs ps] = ok (.val (eBs tn)) := by
  obtain ⟨dr, hd, E1⟩ := fm_law_row_eq sc k hk
  have d0 := at_draw hd (k := 0) (by omega) (by omega)
  simp only [at_0] at d0
  obtain ⟨t, ht, ht2⟩ : ∃ t : Nat, dv dr 0 % 6 = t ∧ t < 6 := ⟨(dv dr 0 % 6).toNat, by omega, by omega⟩
  obtain ⟨ρ', h1, tn, n, a5, a6, rfl, hf⟩ := mFor_of (α := Nat) nI (t := .one 5) (m := mb_law_torn_1) (fun pre ρ => ∃ tn n a5 a6, ρ = [some (.val (.list (sc.map .int))), some (.val (.int k)), some (.val (eS fs ps)), some (.ownL (dr.map .int)), some (.val (eBs tn)), a5, a6] ∧ Fr fs ps n tn) (List.range t) (by
    rintro pre a post ρ e ⟨tn, n, a5, a6, rfl, hf⟩
    have hal : a < t := by
      have : a ∈ List.range t := by rw [← e]; simp
      simpa using this
    have H := fm_law_tears_eq g tn
    have tl := hf.1.len g
    by_cases q : tears (hang fs tn) ps = []
    · rw [q] at H
      exact ⟨_, [some (.val (.list (sc.map .int))), some (.val (.int k)), some (.val (eS fs ps)), some (.ownL (dr.map .int)), some (.val (eBs tn)), some (.val (nI a)), some (.ownL [])], rfl, by simp [mb_law_torn_1, H], tn, n, _, _, rfl, hf⟩
    · have di := at_draw hd (k := 1 + (a : Int)) (by omega) (by omega)
      obtain ⟨u, hu, e2⟩ := draw_tear (dv dr (1 + a)) q
      have hul := tear_len g hu
      have hpos : 0 < (tears (hang fs tn) ps).length := List.length_pos_iff.mpr q
      obtain ⟨j1, j2, j3⟩ := join_B tn u (by omega) (by omega)
      refine ⟨_, [some (.val (.list (sc.map .int))), some (.val (.int k)), some (.val (eS fs ps)), some (.ownL (dr.map .int)), some (.val (eBs (sE (tn ++ u)))), some (.val (nI a)), some (.ownL ((tears (hang fs tn) ps).map eBs))], rfl, ?_, _, _, _, _, rfl, hf.step g hu⟩
      simp [mb_law_torn_1, H, q, nI, di, hpos, e2, j1, j2, j3]) [some (.val (.list (sc.map .int))), some (.val (.int k)), some (.val (eS fs ps)), some (.ownL (dr.map .int)), some (.val (eBs [])), none, none] ⟨[], 0, none, none, rfl, Fr.nil fs ps⟩
  refine ⟨tn, n, hf, ?_⟩
  rw [eBs_nil] at h1
  have r1 : (-1000 : Int) ≤ t ∧ (t : Int) < 1000 := by omega
  simp [fm_law_torn, m_law_torn, E1, d0, ht, r1, rng0, h1]
theorem end_from {fs : List Fl} {ps tn0 tn : List Br} {n : Nat} (g : Gd fs ps) (t0 : Tn ps tn0) (t : Tn ps tn) (r : Tears ps (hang fs tn0) n (hang fs tn)) (e : tears (hang fs tn) ps = []) : tn = endT fs ps tn0 ∧ n = leftN fs ps tn0 := by
  obtain ⟨t2, _, r2, e2⟩ := endT_spec g t0
  have h := one_end (g.bdH tn0) r e r2 e2
  have m1 := r.ms 0 (g.bdH tn0) (g.nodH tn0)
  have m2 := r2.ms 0 (g.bdH tn0) (g.nodH tn0)
  rw [h, m2] at m1
  refine ⟨hang_inj g t t2 h, ?_⟩
  rw [leftN]; omega
/-- to the end, whatever is drawn -/
theorem fm_law_end_eq {fs : List Fl} {ps : List Br} (g : Gd fs ps) (dr : List Int) (hd : Draw dr) (tn0 : List Br) (t0 : Tn ps tn0) : fm_law_end [eS fs ps, eBs tn0, .list (dr.map .int)] = ok (.val (.tuple [eBs (endT fs ps tn0), .int (leftN fs ps tn0)])) := by
  obtain ⟨⟨tn, n⟩, ρ', h1, ⟨rfl, t, r⟩, h2⟩ := mWhile_of (c := b2 neF (oVar 4) (oE (eLst (lNil)))) (b := mb_law_end_1)
    (fun (st : List Br × Nat) ρ => ρ = [some (.val (eS fs ps)), some (.val (eBs st.1)), some (.val (.list (dr.map .int))), some (.val (.int (st.2 : Nat))), some (.ownL ((tears (hang fs st.1) ps).map eBs))] ∧ Tn ps st.1 ∧ Tears ps (hang fs tn0) st.2 (hang fs st.1)) (fun st ρ => tears (hang fs st.1) ps = []) (fun st => (hang fs st.1).length) (by
      rintro ⟨tn, n⟩ ρ ⟨rfl, t, r⟩
      simp only at t r
      by_cases q : tears (hang fs tn) ps = []
      · left; exact ⟨by simp [q], q⟩
      · right
        have di := at_draw hd (k := (n : Int) % 60) (by omega) (by omega)
        obtain ⟨u, hu, e2⟩ := draw_tear (dv dr ((n : Int) % 60)) q
        have hul := tear_len g hu
        have tl := t.len g
        have hpos : 0 < (tears (hang fs tn) ps).length := List.length_pos_iff.mpr q
        obtain ⟨j1, j2, j3⟩ := join_B tn u (by omega) (by omega)
        have H := fm_law_tears_eq g (sE (tn ++ u))
        have hc := hang_cut fs tn u
        obtain ⟨b, _, eb⟩ := (tears_mem _ _ _).mp hu
        refine ⟨by simp [q], (sE (tn ++ u), n + 1), [some (.val (eS fs ps)), some (.val (eBs (sE (tn ++ u)))), some (.val (.list (dr.map .int))), some (.val (.int ((n + 1 : Nat) : Int))), some (.ownL ((tears (hang fs (sE (tn ++ u))) ps).map eBs))], ?_, ⟨rfl, t.step g eb, by rw [hc]; exact r.step hu⟩, by simp only; rw [hc]; exact cutH_lt hu⟩
        simp [mb_law_end_1, di, hpos, e2, j1, j2, j3, H]) 1000 (tn0, 0) [some (.val (eS fs ps)), some (.val (eBs tn0)), some (.val (.list (dr.map .int))), some (.val (.int ((0 : Nat) : Int))), some (.ownL ((tears (hang fs tn0) ps).map eBs))] ⟨rfl, t0, .refl⟩ (by simp only; have := hang_len fs tn0; have := g.le; omega)
  simp only at h2 r t
  obtain ⟨e1, e2⟩ := end_from g t0 t r h2
  have H := fm_law_tears_eq g tn0
  rw [← e1, ← e2]
  have h1' : mWhile (b2 neF (oVar 4) (oE (eLst (lNil)))) mb_law_end_1 1000 [some (.val (eS fs ps)), some (.val (eBs tn0)), some (.val (.list (dr.map .int))), some (.val (.int 0)), some (.ownL ((tears (hang fs tn0) ps).map eBs))] = some (.nx [some (.val (eS fs ps)), some (.val (eBs tn)), some (.val (.list (dr.map .int))), some (.val (.int (n : Nat))), some (.ownL ((tears (hang fs tn) ps).map eBs))]) := h1
  simp [fm_law_end, m_law_end, H, h1']
end TS
/-! A33: the laws' own lots -/
namespace TS
open PySem PySem.Spec PyProof.Rows L2 En EnK

@[simp] theorem u_borB (i : Nat) (m : BM) (ρ : Regs) : borB i m ρ = m (frz i ρ) := rfl
/-- the fields beside one, with the borders between -/
def nearL (f : Fl) : List (Fl × Br) := [((f.1 + 1, f.2), (true, f.1, f.2)), ((f.1 - 1, f.2), (true, f.1 - 1, f.2)), ((f.1, f.2 + 1), (false, f.1, f.2)), ((f.1, f.2 - 1), (false, f.1, f.2 - 1))]
def adjN (h : List Br) (f : Fl) : List Fl := ((nearL f).filter fun p => decide (p.2 ∈ h)).map Prod.fst
theorem adjN_mem (h : List Br) (x y : Fl) : y ∈ adjN h x ↔ y ∈ adjL h x := by
  rw [adjL_mem]
  obtain ⟨a, c⟩ := x
  have e : y ∈ adjN h (a, c) ↔ ∃ p ∈ nearL (a, c), p.2 ∈ h ∧ p.1 = y := by
    simp only [adjN, List.mem_map, List.mem_filter, decide_eq_true_eq]
    exact ⟨fun ⟨p, ⟨h1, h2⟩, h3⟩ => ⟨p, h1, h2, h3⟩, fun ⟨p, h1, h2, h3⟩ => ⟨p, ⟨h1, h2⟩, h3⟩⟩
  rw [e]
  constructor
  · rintro ⟨p, hp, hb, rfl⟩
    simp only [nearL, List.mem_cons, List.not_mem_nil, or_false] at hp
    rcases hp with rfl | rfl | rfl | rfl
    · exact ⟨_, hb, .inl ⟨rfl, rfl⟩⟩
    · exact ⟨_, hb, .inr ⟨by simp [atZ], rfl⟩⟩
    · exact ⟨_, hb, .inl ⟨rfl, rfl⟩⟩
    · exact ⟨_, hb, .inr ⟨by simp [atZ], rfl⟩⟩
  · rintro ⟨⟨w, u, v⟩, hb, h1⟩
    rcases h1 with ⟨h1, rfl⟩ | ⟨h1, rfl⟩
    · simp only [atA, Prod.mk.injEq] at h1
      obtain ⟨rfl, rfl⟩ := h1
      cases w
      · exact ⟨((u, v + 1), (false, u, v)), by simp [nearL], hb, rfl⟩
      · exact ⟨((u + 1, v), (true, u, v)), by simp [nearL], hb, rfl⟩
    · cases w
      · simp only [atZ, Bool.false_eq_true, if_false, Prod.mk.injEq] at h1
        obtain ⟨rfl, rfl⟩ := h1
        exact ⟨((u, v), (false, u, v)), by simp [nearL], hb, rfl⟩
      · simp only [atZ, if_true, Prod.mk.injEq] at h1
        obtain ⟨rfl, rfl⟩ := h1
        exact ⟨((u, v), (true, u, v)), by simp [nearL], hb, rfl⟩
theorem nearL_nodup (f : Fl) : ((nearL f).map Prod.fst).Nodup := sides_nodup f
theorem adjN_nodup (h : List Br) (f : Fl) : (adjN h f).Nodup := (nearL_nodup f).sublist (List.filter_sublist.map Prod.fst)
theorem adjN_symm (h : List Br) : ∀ x y, y ∈ adjN h x → x ∈ adjN h y := fun x y q => by
  rw [adjN_mem] at q ⊢
  exact adjL_symm h x y q
open Classical in
theorem lotOf_congr {fs : List Fl} {adj adj' : Fl → List Fl} (h : ∀ x y, y ∈ adj x ↔ y ∈ adj' x) (f : Fl) : lotOf fs adj f = lotOf fs adj' f := by
  unfold lotOf
  congr 1
  exact List.filter_congr fun x _ => decide_eq_decide.mpr (Reach.congr h)
theorem heads_congr {adj adj' : Fl → List Fl} (h : ∀ x y, y ∈ adj x ↔ y ∈ adj' x) : ∀ fs : List Fl, heads adj fs = heads adj' fs := by
  refine snoc_ind rfl fun xs a ih => ?_
  rw [heads_snoc, heads_snoc, ih]
  have e : (∃ h ∈ heads adj' xs, Reach adj h a) ↔ ∃ h ∈ heads adj' xs, Reach adj' h a := by simp only [Reach.congr h]
  by_cases q : ∃ h ∈ heads adj' xs, Reach adj' h a
  · rw [if_pos q, if_pos (e.mpr q)]
  · rw [if_neg q, if_neg (fun z => q (e.mp z))]
theorem lots_congr {fs : List Fl} {adj adj' : Fl → List Fl} (h : ∀ x y, y ∈ adj x ↔ y ∈ adj' x) : lots fs adj = lots fs adj' := by
  rw [lots, lots, heads_congr h]
  exact List.map_congr_left fun f _ => lotOf_congr h f
def enN (p : Fl × Br) : D := .tuple [eF p.1, eB p.2]
abbrev rgO (fs : List Fl) (h : List Br) (ls : List (List Fl)) (a3 : Option RV) (lot : List Fl) (k : Nat) (a6 a7 a8 : Option RV) : Regs := [some (.val (eFs fs)), some (.val (.list (h.map eB))), some (.ownL (ls.map eFs)), a3, some (.ownL (lot.map eF)), some (.val (.int k)), a6, a7, a8, none, none]
theorem lots_step {fs : List Fl} {h : List Br} {ls : List (List Fl)} {a3 : Option RV} {lot : List Fl} {k : Nat} {f : Fl} (a6 a7 a8 : Option RV) (hk : lot[k]? = some f) (hl : lot.length ≤ 400) :
    mb_law_lots_1 (rgO fs h ls a3 lot k a6 a7 a8) = some (.nx (rgO fs h ls a3 (lot ++ (adjN h f).filter fun a => decide (a ∉ lot)) (k + 1) (some (.val (.int f.1))) (some (.val (.int f.2))) (some (.val (.list ((nearL f).map enN)))))) := by
  have hat : atI (lot.map eF) (k : Int) = some (eF f) := by rw [at_nat, List.getElem?_map, hk]; rfl
  have tg : ∀ ρ, tgtM (.tup [6, 7]) (eF f) ρ = some ((ρ.set 6 (some (.val (.int f.1)))).set 7 (some (.val (.int f.2)))) := fun ρ => rfl
  have ef : (adjN h f).filter (fun a => decide (a ∉ lot)) = ((nearL f).filter (fun p => decide (p.2 ∈ h) && decide (p.1 ∉ lot))).map Prod.fst := by
    rw [adjN, List.filter_map, List.filter_filter]
    congr 1
    exact List.filter_congr fun x _ => by simp [Function.comp, Bool.and_comm]
  have lc := eLc_of (α := Fl × Br) enN (fun p => decide (p.2 ∈ h) && decide (p.1 ∉ lot)) (fun p => eF p.1) (t := .tup [9, 10]) (vs := [9, 10]) (it := iA (vVar 8)) (c := bAnd (b2 inF (oVar 10) (oVar 1)) (b2 notInF (oVar 9) (oVar 4))) (e := vVar 9) (ρ := rgO fs h ls a3 lot k (some (.val (.int f.1))) (some (.val (.int f.2))) (some (.val (.list ((nearL f).map enN))))) (nearL f) (by simp [rgO]) (by simp [rgO]) (by simp [nearL]) (fun p _ => ⟨_, rfl, by simp [rgO, ok_ite, ite_and], fun _ => by simp [rgO]⟩)
  have hm : ((nearL f).filter (fun p => decide (p.2 ∈ h) && decide (p.1 ∉ lot))).map (fun p => eF p.1) = ((adjN h f).filter (fun a => decide (a ∉ lot))).map eF := by rw [ef, List.map_map]; rfl
  rw [hm] at lc
  have h4 : ((adjN h f).filter (fun a => decide (a ∉ lot))).length ≤ 4 := by
    rw [ef, List.length_map]
    exact List.length_filter_le _ _
  generalize (adjN h f).filter (fun a => decide (a ∉ lot)) = nw at lc h4
  have ha := add_FF lot nw (by omega)
  have hn : addF (.list [.tuple [.tuple [.int (f.1 + 1), .int f.2], .tuple [.str "right", .int f.1, .int f.2]], .tuple [.tuple [.int (f.1 - 1), .int f.2], .tuple [.str "right", .int (f.1 - 1), .int f.2]]]) (.list [.tuple [.tuple [.int f.1, .int (f.2 + 1)], .tuple [.str "down", .int f.1, .int f.2]], .tuple [.tuple [.int f.1, .int (f.2 - 1)], .tuple [.str "down", .int f.1, .int (f.2 - 1)]]]) = some (.ownL ((nearL f).map enN)) := by rfl
  simp only [rgO] at lc
  simp [mb_law_lots_1, rgO, hat, tg, hn, lc, ha, -List.map_append]
theorem lots_while {fs : List Fl} {h : List Br} {ls : List (List Fl)} {a3 : Option RV} {f0 : Fl} (a6 a7 a8 : Option RV) (hfs : fs.length ≤ 400) (h0 : f0 ∈ fs) (hin : ∀ b ∈ h, atA b ∈ fs ∧ atZ b ∈ fs) :
    ∃ lot k b6 b7 b8, mWhile (b2 (ltF pLt) (oVar 5) (oE (eL lenF (lCons (oVar 4) (lNil))))) mb_law_lots_1 1000 (rgO fs h ls a3 [f0] 0 a6 a7 a8) = some (.nx (rgO fs h ls a3 lot k b6 b7 b8)) ∧ Bfs fs (adjN h) f0 k lot ∧ lot.length ≤ k := by
  have hcl : ∀ x ∈ fs, ∀ y ∈ adjN h x, y ∈ fs := by
    intro x _ y hy
    rw [adjN_mem, adjL_mem] at hy
    obtain ⟨b, hb, q⟩ := hy
    rcases q with ⟨_, rfl⟩ | ⟨_, rfl⟩
    · exact (hin b hb).2
    · exact (hin b hb).1
  obtain ⟨⟨k, lot⟩, ρ', h1, ⟨b6, b7, b8, rfl, B⟩, h2⟩ := mWhile_of (c := b2 (ltF pLt) (oVar 5) (oE (eL lenF (lCons (oVar 4) (lNil))))) (b := mb_law_lots_1)
    (fun (st : Nat × List Fl) ρ => ∃ b6 b7 b8, ρ = rgO fs h ls a3 st.2 st.1 b6 b7 b8 ∧ Bfs fs (adjN h) f0 st.1 st.2) (fun st ρ => st.2.length ≤ st.1) (fun st => fs.length - st.1) (by
      rintro ⟨k, lot⟩ ρ ⟨b6, b7, b8, rfl, B⟩
      simp only at B
      by_cases q : k < lot.length
      · right
        have hl : lot.length ≤ fs.length := B.len
        have hk : lot[k]? = some lot[k] := List.getElem?_eq_getElem q
        have B2 := B.step hcl (adjN_nodup h _) hk
        exact ⟨by simp [rgO, pLt, q], (k + 1, _), _, lots_step b6 b7 b8 hk (Nat.le_trans hl hfs), ⟨_, _, _, rfl, B2⟩, by simp only; omega⟩
      · left
        exact ⟨by simp [rgO, pLt, q], by simp only; omega⟩) 1000 (0, [f0]) (rgO fs h ls a3 [f0] 0 a6 a7 a8) ⟨a6, a7, a8, rfl, Bfs.start h0⟩ (by simp only; omega)
  exact ⟨lot, k, b6, b7, b8, h1, B, h2⟩
theorem fm_law_lots_eq {fs : List Fl} {h : List Br} (hfs : fs.length ≤ 400) (hfn : fs.Nodup) (hin : ∀ b ∈ h, atA b ∈ fs ∧ atZ b ∈ fs) : fm_law_lots [eFs fs, .list (h.map eB)] = ok (.ownL ((lots fs (adjL h)).map eFs)) := by
  rw [← lots_congr (adjN_mem h)]
  obtain ⟨ρ', h1, a3, a4, a5, a6, a7, a8, rfl⟩ := mFor_of (α := Fl) eF (t := .one 3) (m := mb_law_lots_2) (fun pre ρ => ∃ a3 a4 a5 a6 a7 a8, ρ = [some (.val (eFs fs)), some (.val (.list (h.map eB))), some (.ownL (((heads (adjN h) pre).map (lotOf fs (adjN h))).map eFs)), a3, a4, a5, a6, a7, a8, none, none]) fs (by
    rintro pre a post ρ e ⟨a3, a4, a5, a6, a7, a8, rfl⟩
    have ha : a ∈ fs := by rw [← e]; simp
    have hpl : (heads (adjN h) pre).length ≤ 400 := by
      have := heads_len (adjN h) pre
      have : pre.length ≤ fs.length := by rw [← e]; simp
      omega
    rw [heads_snoc]
    generalize hls : (heads (adjN h) pre).map (lotOf fs (adjN h)) = ls
    have hll : ls.length ≤ 400 := by rw [← hls, List.length_map]; exact hpl
    have hmm : (∃ h0 ∈ heads (adjN h) pre, Reach (adjN h) h0 a) ↔ ∃ l ∈ ls, a ∈ l := by
      rw [← hls]
      constructor
      · rintro ⟨h0, q1, q2⟩; exact ⟨_, List.mem_map.mpr ⟨h0, q1, rfl⟩, (lotOf_mem _ _ _ _).mpr ⟨ha, q2⟩⟩
      · rintro ⟨l, q1, q2⟩
        obtain ⟨h0, q3, rfl⟩ := List.mem_map.mp q1
        exact ⟨h0, q3, ((lotOf_mem _ _ _ _).mp q2).2⟩
    have lc : ∀ r4 : Option D, eLc (.one 4) [4] (iA (vVar 2)) (b2 inF (oVar 3) (oVar 4)) (vVar 4) [some (.val (eFs fs)), some (.val (.list (h.map eB))), some (.val (.list (ls.map eFs))), some (.val (eF a)), r4.map .val, a5, a6, a7, a8, none, none] = ok (.ownL ((ls.filter fun l => decide (a ∈ l)).map eFs)) := fun r4 =>
      eLc_of (α := List Fl) eFs (fun l => decide (a ∈ l)) eFs ls (by simp) (by cases r4 <;> simp) (by omega) (fun l _ => ⟨_, rfl, by simp [eFs], fun _ => by simp⟩)
    have ht : borB 4 (borB 2 (b2 eqF (oE (eLc (.one 4) [4] (iA (vVar 2)) (b2 inF (oVar 3) (oVar 4)) (vVar 4))) (oE (eLst (lNil))))) [some (.val (eFs fs)), some (.val (.list (h.map eB))), some (.ownL (ls.map eFs)), some (.val (eF a)), a4, a5, a6, a7, a8, none, none] = ok (decide (ls.filter (fun l => decide (a ∈ l)) = [])) := by
      have eq0 : ∀ xs : List (List Fl), eqF (.list (xs.map eFs)) (.list []) = some (decide (xs = [])) := fun xs => eq_FF xs []
      cases a4 with
      | none => have := lc none; simp only [Option.map_none] at this; simp [this, eq0]
      | some r => have := lc (some r.dat); simp only [Option.map_some] at this; simp [this, eq0]
    have hf : (ls.filter (fun l => decide (a ∈ l)) = []) ↔ ¬ ∃ l ∈ ls, a ∈ l := by simp [List.filter_eq_nil_iff]
    by_cases q : ∃ l ∈ ls, a ∈ l
    · rw [if_pos (hmm.mpr q), hls]
      refine ⟨_, [some (.val (eFs fs)), some (.val (.list (h.map eB))), some (.ownL (ls.map eFs)), some (.val (eF a)), a4, a5, a6, a7, a8, none, none], rfl, ?_, _, _, _, _, _, _, rfl⟩
      rw [decide_eq_false (fun z => hf.mp z q)] at ht
      simp only [List.set_cons_succ, List.set_cons_zero, mb_law_lots_2, u_sIf, u_sb, ht, u_sb_ok]
      rfl
    · rw [if_neg (fun z => q (hmm.mp z)), List.map_append, hls]
      rw [decide_eq_true (hf.mpr q)] at ht
      obtain ⟨lot, k, b6, b7, b8, e1, B, hk⟩ := lots_while (ls := ls) (a3 := some (.val (eF a))) a6 a7 a8 hfs ha hin
      have hlot := B.lot hk (adjN_symm h) hfn
      have hl := B.len
      have s1 := sort_F lot (by omega)
      rw [hlot] at s1
      have s2 := tup_F (lotOf fs (adjN h) a) (by have := congrArg List.length hlot; rw [sE_len] at this; omega)
      refine ⟨_, rgO fs h (ls ++ [lotOf fs (adjN h) a]) (some (.val (eF a))) lot k b6 b7 b8, rfl, ?_, some (.val (eF a)), some (.ownL (lot.map eF)), some (.val (.int (k : Nat))), b6, b7, b8, by simp [rgO]⟩
      simp [rgO] at e1
      have hl9 : ls.length < 1000 := by omega
      simp only [List.set_cons_succ, List.set_cons_zero, mb_law_lots_2, u_sIf, u_sb, ht, u_sb_ok]
      simp [e1, s1, s2, rgO, hl9]) [some (.val (eFs fs)), some (.val (.list (h.map eB))), some (.ownL []), none, none, none, none, none, none, none, none] ⟨none, none, none, none, none, none, by simp [heads]⟩
  simp [fm_law_lots, m_law_lots, h1, lots]
end TS
/-! A34: pieces -/
namespace TS
open PySem PySem.Spec PyProof.Rows L2 En EnK

theorem hang_in (fs : List Fl) (tn : List Br) : ∀ b ∈ hang fs tn, atA b ∈ fs ∧ atZ b ∈ fs := fun b hb => (inner_mem _ _).mp (hang_sub fs tn b hb)
/-- the pieces -/
noncomputable def pcs (fs : List Fl) (tn : List Br) : List (List Fl) := lots fs (adjL (hang fs tn))
theorem list_dB (h : List Br) : listF [.dict (kvT h)] = some (.ownL (h.map eB)) := by
  simp only [listF, seqF, fst_B]
  simp
theorem fm_pieces_of_eq {fs : List Fl} (ps tn : List Br) (hl : fs.length ≤ 16) (hn : fs.Nodup) (ht : tn.length ≤ 900) : fm_pieces_of [eS fs ps, eBs tn] = ok (.ownL ((pcs fs tn).map eFs)) := by
  have H1 := fm_hanging_of_eq fs ps tn (by omega) ht hn
  have l1 := hang_len fs tn
  have H2 := fm_parts_of_g (eFs fs) (.list ((hang fs tn).map eB)) fs (hang fs tn) rfl rfl (by omega) (by omega) (hang_in fs tn) hn
  simp [fm_pieces_of, m_pieces_of, H1, list_dB, H2, pcs]
theorem fm_pieces_eq {fs : List Fl} {ps tn : List Br} (g : Gd fs ps) (t : Tn ps tn) : fm_pieces [eS fs ps, eBs tn] = ok (.ownL ((pcs fs tn).map eFs)) := by
  have H := fm_pieces_of_eq ps tn g.le g.nd (by have := t.len g; omega)
  simp [fm_pieces, m_pieces, fm_look_torn_ok g t, H]
theorem fm_end_pieces_eq {fs : List Fl} {ps : List Br} (g : Gd fs ps) : fm_end_pieces [eS fs ps] = ok (.ownL ((pcs fs (endT fs ps [])).map eFs)) := by
  have t := (endT_spec g (Tn.nil ps)).1
  have H := fm_pieces_of_eq ps (endT fs ps []) g.le g.nd (by have := t.len g; omega)
  have E := fm_end_torn_eq g
  rw [show goneF (endH fs ps []) ps = endT fs ps [] from rfl] at E
  simp [fm_end_pieces, m_end_pieces, fm_look_ok g, E, H]
theorem law_pieces_eq {fs : List Fl} {ps : List Br} (g : Gd fs ps) (tn : List Br) : fm_law_lots [eFs fs, .list ((hang fs tn).map eB)] = ok (.ownL ((pcs fs tn).map eFs)) :=
  fm_law_lots_eq (by have := g.le; omega) g.nd (hang_in fs tn)
end TS
/-! A35: two tears -/
namespace TS
open PySem PySem.Spec PyProof.Rows L2 En EnK

theorem tears_one {h ps t u : List Br} (hb : BdB h) (ht : t ∈ tears h ps) (hu : u ∈ tears h ps) {x : Br} (h1 : x ∈ t) (h2 : x ∈ u) : t = u := by
  have e := tear_of_mem hb ht h1
  rw [tear_of_mem hb hu h2] at e
  cases e; rfl
theorem tears_sub {h ps t : List Br} (hb : BdB h) (ht : t ∈ tears h ps) : ∀ x ∈ t, x ∈ h := by
  obtain ⟨b, _, e⟩ := (tears_mem _ _ _).mp ht
  obtain ⟨rfl, hbh, _⟩ := tear_line e
  exact fun x hx => line_sub hb hbh hx
theorem tears_nd {h ps t : List Br} (hb : BdB h) (ht : t ∈ tears h ps) : t.Nodup := by
  obtain ⟨b, _, e⟩ := (tears_mem _ _ _).mp ht
  obtain ⟨rfl, _, _⟩ := tear_line e
  exact line_nodup hb b
theorem filter_both {α : Type} (p : α → Bool) : ∀ xs : List α, (xs.filter p).length + (xs.filter fun x => !p x).length = xs.length
  | [] => rfl
  | x :: xs => by
    have := filter_both p xs
    cases q : p x <;> simp [q] <;> omega
theorem nodup_one {α : Type} {xs : List α} (h : xs.Nodup) (e : ∀ a ∈ xs, ∀ b ∈ xs, a = b) : xs.length ≤ 1 := by
  cases xs with
  | nil => simp
  | cons a xs =>
    cases xs with
    | nil => simp
    | cons b xs =>
      have := e a (by simp) b (by simp)
      subst this
      simp at h
theorem nodup_le {α : Type} [DecidableEq α] {xs ys : List α} (h1 : xs.Nodup) (h2 : ys.Nodup) (h : ∀ a ∈ xs, a ∈ ys) : xs.length ≤ ys.length := by
  have p : xs.Perm (ys.filter fun y => decide (y ∈ xs)) := perm_of h1 (List.Pairwise.filter _ h2) fun a => by
    rw [List.mem_filter]
    exact ⟨fun z => ⟨h a z, decide_eq_true z⟩, fun z => of_decide_eq_true z.2⟩
  rw [p.length_eq]; exact List.length_filter_le _ _
/-- what is round a border's end -/
theorem cross_pt {x y : Br} (h : y ∈ four (cnZ x)) : y = x ∨ y = nxt x 1 ∨ (y.1 = !x.1 ∧ (x.1 = true → y.2.2 = x.2.2) ∧ (x.1 = false → y.2.1 = x.2.1)) := by
  obtain ⟨w, a, b⟩ := x
  simp only [cnZ, four, List.mem_cons, List.not_mem_nil, or_false] at h
  cases w <;> rcases h with rfl | rfl | rfl | rfl <;> simp [nxt] <;> omega
theorem Co.dir {h : List Br} {b x : Br} (c : Co h b x) : x.1 = b.1 ∧ (b.1 = true → x.2.1 = b.2.1) ∧ (b.1 = false → x.2.2 = b.2.2) := by
  obtain ⟨k, rfl, _⟩ := c
  obtain ⟨w, u, v⟩ := b
  cases w <;> simp [nxt]
/-- a tear cuts another one at most once -/
theorem cross_wc {h ps t u : List Br} (hb : BdB h) (ht : t ∈ tears h ps) (hu : u ∈ tears h ps) (hne : t ≠ u) : (wcL (cutH (cutH h t) u)).length + u.length ≤ (wcL (cutH h t)).length + 2 := by
  have hdis : ∀ x, x ∈ t → x ∈ u → False := fun x h1 h2 => hne (tears_one hb ht hu h1 h2)
  obtain ⟨b, _, e⟩ := (tears_mem _ _ _).mp hu
  obtain ⟨eu, hbh, _⟩ := tear_line e
  obtain ⟨b', _, e'⟩ := (tears_mem _ _ _).mp ht
  obtain ⟨et, _, _⟩ := tear_line e'
  subst eu et
  obtain ⟨z, hz, hlast⟩ := line_last hb b
  have hnd := line_nodup hb b
  have hf := filter_ne_lenG hnd hz
  have hLn : ((line h b).filter fun x => decide (x ≠ z)).Nodup := List.Pairwise.filter _ hnd
  have hLm : ∀ x ∈ (line h b).filter (fun x => decide (x ≠ z)), Co h b x ∧ whole4 h (cnZ x) = true := fun x hx => by
    obtain ⟨h1, h2⟩ := List.mem_filter.mp hx
    exact ⟨(line_mem hb b x).mp h1, (hlast x h1).mpr (of_decide_eq_true h2)⟩
  generalize (line h b).filter (fun x => decide (x ≠ z)) = L at hf hLn hLm
  let good : Br → Bool := fun x => (four (cnZ x)).all fun y => decide (y ∉ line h b')
  have hgood : ∀ x, good x = true ↔ ∀ y ∈ four (cnZ x), y ∉ line h b' := fun x => by simp [good]
  have hbad : ∀ x ∈ L, good x = false → ∃ y ∈ line h b', y.1 = !x.1 ∧ (x.1 = true → y.2.2 = x.2.2) ∧ (x.1 = false → y.2.1 = x.2.1) := fun x hx q => by
    have : ∃ y ∈ four (cnZ x), y ∈ line h b' := by
      refine Classical.byContradiction fun no => ?_
      rw [(hgood x).mpr fun y hy hy2 => no ⟨y, hy, hy2⟩] at q; cases q
    obtain ⟨y, hy, hyt⟩ := this
    obtain ⟨c, hw⟩ := hLm x hx
    rcases cross_pt hy with rfl | rfl | z
    · exact (hdis _ hyt ((line_mem hb b _).mpr c)).elim
    · refine (hdis _ hyt ((line_mem hb b _).mpr (c.trans ⟨1, rfl, fun i hi => ?_⟩))).elim
      have : i = 0 := by omega
      subst this
      show whole4 h (cnZ (nxt x 0)) = true
      rw [nxt_0]; exact hw
    · exact ⟨y, hyt, z⟩
  have h2 : (L.filter fun x => !good x).length ≤ 1 := nodup_one (List.Pairwise.filter _ hLn) fun x1 m1 x2 m2 => by
    obtain ⟨l1, q1⟩ := List.mem_filter.mp m1
    obtain ⟨l2, q2⟩ := List.mem_filter.mp m2
    obtain ⟨y1, t1, d1, a1, b1⟩ := hbad x1 l1 (by simpa using q1)
    obtain ⟨y2, t2, d2, a2, b2⟩ := hbad x2 l2 (by simpa using q2)
    have cy := ((line_mem hb b' y1).mp t1).symm.trans ((line_mem hb b' y2).mp t2)
    have cx := (hLm x1 l1).1.symm.trans (hLm x2 l2).1
    obtain ⟨e1, e2, e3⟩ := cy.dir
    obtain ⟨f1, f2, f3⟩ := cx.dir
    obtain ⟨w, p, q⟩ := x1
    obtain ⟨w2, p2, q2⟩ := x2
    simp only at f1
    subst f1
    cases w2 <;> simp_all
  have h3 := filter_both good L
  have h4 : (wcL (cutH (cutH h (line h b')) (line h b)) ++ (L.filter good).map cnZ).length ≤ (wcL (cutH h (line h b'))).length := by
    refine nodup_le ?_ (wcL_nodup _) ?_
    · rw [List.nodup_append]
      refine ⟨wcL_nodup _, ?_, ?_⟩
      · refine List.pairwise_map.mpr (List.Pairwise.imp_of_mem ?_ (List.Pairwise.filter _ hLn))
        intro x y hx hy hne e
        exact hne (cnZ_inj (hLm x (List.mem_filter.mp hx).1).1 (hLm y (List.mem_filter.mp hy).1).1 e)
      · intro c hc d hd e
        subst e
        obtain ⟨x, hx, rfl⟩ := List.mem_map.mp hd
        rw [wcL_mem, whole4_iff] at hc
        have := hc x (end_four x).1
        exact ((cutH_mem _ _ _).mp this).2 ((line_mem hb b x).mpr (hLm x (List.mem_filter.mp hx).1).1)
    · intro c hc
      rw [wcL_mem]
      rcases List.mem_append.mp hc with hc | hc
      · rw [wcL_mem, whole4_iff] at hc
        rw [whole4_iff]
        exact fun x hx => ((cutH_mem _ _ _).mp (hc x hx)).1
      · obtain ⟨x, hx, rfl⟩ := List.mem_map.mp hc
        obtain ⟨hl, hg⟩ := List.mem_filter.mp hx
        have hw := (hLm x hl).2
        rw [whole4_iff] at hw ⊢
        exact fun y hy => (cutH_mem _ _ _).mpr ⟨hw y hy, (hgood x).mp hg y hy⟩
  rw [List.length_append, List.length_map] at h4
  omega
theorem Tn.ext {ps a b : List Br} (h1 : Tn ps a) (h2 : b.Nodup) (h : ∀ x, x ∈ a ↔ x ∈ b) : a = sE b :=
  srt_uniq h1.srt (sE_srt _) ((perm_of h1.nd h2 h).trans (sE_perm _).symm)
theorem ms_cut2 {h ps t u : List Br} {m : Nat} (n : Nat) (hb : BdB h) (hn : h.Nodup) (ht : t ∈ tears h ps) (hu : u ∈ tears h ps) (hne : t ≠ u) (e : ms n (cutH (cutH h t) u) = ms n (cutH h t) + m) : m ≤ 2 := by
  have h1 := cross_wc hb ht hu hne
  have h2 := cut_len (cut_nodup hn t) (tears_nd hb hu) (fun x hx => (cutH_mem _ _ _).mpr ⟨tears_sub hb hu x hx, fun z => hne (tears_one hb ht hu z hx)⟩)
  simp only [ms] at e
  omega
end TS
/-! A36: what the lots are -/
namespace TS
open PySem PySem.Spec PyProof.Rows L2 En EnK

theorem leE_refl {α : Type} [DecidableEq α] [En α] (a : α) : leE a a = true := by
  have := Ord.tot a a
  simpa using this
theorem lotOf_eq {fs : List Fl} {adj : Fl → List Fl} (hsy : ∀ x y, y ∈ adj x → x ∈ adj y) {a b : Fl} (r : Reach adj a b) : lotOf fs adj a = lotOf fs adj b := by
  unfold lotOf
  congr 1
  refine List.filter_congr fun x _ => ?_
  have : Reach adj a x ↔ Reach adj b x := ⟨fun h => (Reach.symm hsy r).trans h, fun h => r.trans h⟩
  simp [this]
theorem lots_of {fs : List Fl} {adj : Fl → List Fl} {l : List Fl} (h : l ∈ lots fs adj) : ∃ a ∈ fs, l = lotOf fs adj a := by
  obtain ⟨a, ha, rfl⟩ := List.mem_map.mp h
  exact ⟨a, heads_sub adj fs a ha, rfl⟩
theorem lots_at {fs : List Fl} {adj : Fl → List Fl} (hsy : ∀ x y, y ∈ adj x → x ∈ adj y) {l : List Fl} (h : l ∈ lots fs adj) {f : Fl} (hf : f ∈ l) : l = lotOf fs adj f := by
  obtain ⟨a, ha, rfl⟩ := lots_of h
  exact lotOf_eq hsy ((lotOf_mem _ _ _ _).mp hf).2
theorem lots_has {fs : List Fl} {adj : Fl → List Fl} (hsy : ∀ x y, y ∈ adj x → x ∈ adj y) {f : Fl} (hf : f ∈ fs) : lotOf fs adj f ∈ lots fs adj := by
  obtain ⟨h, hh, r⟩ := heads_cov adj fs f hf
  rw [← lotOf_eq hsy r]
  exact List.mem_map.mpr ⟨h, hh, rfl⟩
theorem lotOf_self {fs : List Fl} {adj : Fl → List Fl} {f : Fl} (hf : f ∈ fs) : f ∈ lotOf fs adj f := (lotOf_mem _ _ _ _).mpr ⟨hf, .refl⟩
theorem lotOf_nd {fs : List Fl} (hn : fs.Nodup) (adj : Fl → List Fl) (f : Fl) : (lotOf fs adj f).Nodup := (sE_perm _).nodup_iff.mpr (List.Pairwise.filter _ hn)
theorem lotOf_srt (fs : List Fl) (adj : Fl → List Fl) (f : Fl) : Srt (lotOf fs adj f) := sE_srt _
/-- whatever hangs alike makes the same lots -/
theorem lots_reach {fs : List Fl} {adj adj' : Fl → List Fl} (h : ∀ x ∈ fs, ∀ y ∈ fs, Reach adj x y ↔ Reach adj' x y) : lots fs adj = lots fs adj' := by
  have hl : ∀ x ∈ fs, lotOf fs adj x = lotOf fs adj' x := fun x hx => by
    unfold lotOf
    congr 1
    exact List.filter_congr fun y hy => by simp [h x hx y hy]
  have hh : ∀ pre : List Fl, (∀ x ∈ pre, x ∈ fs) → heads adj pre = heads adj' pre := by
    refine snoc_ind (fun _ => by simp [heads]) fun xs a ih hs => ?_
    have ih := ih fun x hx => hs x (by simp [hx])
    rw [heads_snoc, heads_snoc, ih]
    have hsub : ∀ z ∈ heads adj' xs, z ∈ fs := fun z hz => hs z (by simp [heads_sub adj' xs z hz])
    have e : (∃ z ∈ heads adj' xs, Reach adj z a) ↔ ∃ z ∈ heads adj' xs, Reach adj' z a := ⟨fun ⟨z, h1, h2⟩ => ⟨z, h1, (h z (hsub z h1) a (hs a (by simp))).mp h2⟩, fun ⟨z, h1, h2⟩ => ⟨z, h1, (h z (hsub z h1) a (hs a (by simp))).mpr h2⟩⟩
    by_cases q : ∃ z ∈ heads adj' xs, Reach adj z a
    · rw [if_pos q, if_pos (e.mp q)]
    · rw [if_neg q, if_neg (fun z => q (e.mpr z))]
  unfold lots
  rw [hh fs fun x hx => hx]
  refine List.map_congr_left fun x hx => hl x (heads_sub adj' fs x hx)
theorem heads_ind (adj : Fl → List Fl) : ∀ fs : List Fl, (heads adj fs).Sublist fs := by
  refine snoc_ind (by simp [heads]) fun xs a ih => ?_
  rw [heads_snoc]
  split
  · exact ih.trans (List.sublist_append_left _ _)
  · exact ih.append (List.Sublist.refl _)
theorem heads_least {adj : Fl → List Fl} (hsy : ∀ x y, y ∈ adj x → x ∈ adj y) : ∀ fs : List Fl, Srt fs → ∀ h ∈ heads adj fs, ∀ x ∈ fs, Reach adj h x → leE h x = true := by
  refine snoc_ind (fun _ h hh => by simp [heads] at hh) fun xs a ih hs h hh x hx r => ?_
  have hs' := List.pairwise_append.mp hs
  rw [heads_snoc] at hh
  have key : h ∈ heads adj xs → leE h x = true := fun hh => by
    rcases List.mem_append.mp hx with z | z
    · exact ih hs'.1 h hh x z r
    · exact hs'.2.2 h (heads_sub adj xs h hh) x z
  split at hh
  · exact key hh
  · rename_i no
    rcases List.mem_append.mp hh with z | z
    · exact key z
    · have e := List.mem_singleton.mp z
      subst e
      rcases List.mem_append.mp hx with y | y
      · obtain ⟨h', h1, h2⟩ := heads_cov adj xs x y
        exact (no ⟨h', h1, h2.trans (Reach.symm hsy r)⟩).elim
      · rw [List.mem_singleton.mp y]; exact leE_refl _
/-- a lot begins with its head -/
theorem lot_hd {adj : Fl → List Fl} (hsy : ∀ x y, y ∈ adj x → x ∈ adj y) {fs : List Fl} (hs : Srt fs) {h : Fl} (hh : h ∈ heads adj fs) : ∃ r, lotOf fs adj h = h :: r := by
  have hm : h ∈ lotOf fs adj h := lotOf_self (heads_sub adj fs h hh)
  have hsr := lotOf_srt fs adj h
  have hmem : ∀ x ∈ lotOf fs adj h, leE h x = true := fun x hx => by
    obtain ⟨h1, h2⟩ := (lotOf_mem _ _ _ _).mp hx
    exact heads_least hsy fs hs h hh x h1 h2
  cases e : lotOf fs adj h with
  | nil => rw [e] at hm; cases hm
  | cons y r =>
    rw [e] at hm hsr hmem
    rcases List.mem_cons.mp hm with rfl | z
    · exact ⟨r, rfl⟩
    · have h1 := (List.pairwise_cons.mp hsr).1 h z
      have h2 := hmem y (by simp)
      rw [Ord.anti h y h2 h1]
      exact ⟨r, rfl⟩
theorem le_cons {a b : Fl} {x y : List Fl} (hne : a ≠ b) (h : leE a b = true) : leE (a :: x) (b :: y) = true := by
  rw [leE_lt] at h ⊢
  show (!W.dataLt (.tuple (eF b :: y.map eF)) (.tuple (eF a :: x.map eF))) = true
  have e := W.dataLt_all_no (x := eF b) (y := eF a) (xs := y.map eF) (ys := x.map eF) (En.alk b a) (by have := En.eqv b a; rw [show PyData.eqv (eF b) (eF a) = decide (b = a) from this]; exact decide_eq_false (Ne.symm hne))
  rw [W.dataLt_tuple, e]
  exact h
theorem lots_srt {adj : Fl → List Fl} (hsy : ∀ x y, y ∈ adj x → x ∈ adj y) {fs : List Fl} (hs : Srt fs) (hn : fs.Nodup) : Srt (lots fs adj) := by
  have h1 : Srt (heads adj fs) := hs.sublist (heads_ind adj fs)
  have h2 : (heads adj fs).Nodup := hn.sublist (heads_ind adj fs)
  refine List.pairwise_map.mpr (List.Pairwise.imp_of_mem ?_ (List.Pairwise.and h1 h2))
  intro a b ha hb h
  obtain ⟨r, er⟩ := lot_hd hsy hs ha
  obtain ⟨r', er'⟩ := lot_hd hsy hs hb
  rw [er, er']
  exact le_cons h.2 h.1
theorem lots_flat {adj : Fl → List Fl} (hsy : ∀ x y, y ∈ adj x → x ∈ adj y) {fs : List Fl} (hn : fs.Nodup) : (lots fs adj).flatten.Perm fs := by
  refine perm_of ?_ hn fun f => ?_
  · refine List.pairwise_flatten.mpr ⟨fun l hl => ?_, ?_⟩
    · obtain ⟨a, _, rfl⟩ := lots_of hl
      exact lotOf_nd hn adj a
    · refine List.pairwise_map.mpr (List.Pairwise.imp ?_ (heads_pw adj fs))
      intro a b h x hx y hy e
      subst e
      exact h ((((lotOf_mem _ _ _ _).mp hx).2).trans (Reach.symm hsy ((lotOf_mem _ _ _ _).mp hy).2))
  · rw [List.mem_flatten]
    constructor
    · rintro ⟨l, hl, hf⟩
      obtain ⟨a, _, rfl⟩ := lots_of hl
      exact ((lotOf_mem _ _ _ _).mp hf).1
    · exact fun hf => ⟨_, lots_has hsy hf, lotOf_self hf⟩
theorem lots_ne {fs : List Fl} {adj : Fl → List Fl} {l : List Fl} (h : l ∈ lots fs adj) : l ≠ [] := by
  obtain ⟨a, ha, rfl⟩ := lots_of h
  exact fun e => by have := lotOf_self (adj := adj) ha; rw [e] at this; cases this
theorem lots_len {fs : List Fl} (hn : fs.Nodup) {adj : Fl → List Fl} {l : List Fl} (h : l ∈ lots fs adj) : l.length ≤ fs.length := by
  obtain ⟨a, ha, rfl⟩ := lots_of h
  exact nodup_le (lotOf_nd hn adj a) hn fun x hx => ((lotOf_mem _ _ _ _).mp hx).1
/-- a lot hangs together by sides -/
theorem lots_join {fs : List Fl} {h : List Br} (hin : ∀ b ∈ h, atA b ∈ fs ∧ atZ b ∈ fs) {l : List Fl} (hl : l ∈ lots fs (adjL h)) : Join l := by
  have hsy := adjL_symm h
  intro a ha b hb
  have e := lots_at hsy hl ha
  have r : Reach (adjL h) a b := by rw [e] at hb; exact ((lotOf_mem _ _ _ _).mp hb).2
  have clo : ∀ x ∈ l, ∀ y ∈ adjL h x, y ∈ l := fun x hx y hy => by
    have ex := lots_at hsy hl hx
    rw [ex, lotOf_mem]
    obtain ⟨c, hc, q⟩ := (adjL_mem h x y).mp hy
    refine ⟨?_, Reach.refl.step hy⟩
    rcases q with ⟨_, rfl⟩ | ⟨_, rfl⟩
    · exact (hin c hc).2
    · exact (hin c hc).1
  refine (Reach.imp (adj' := adjS l) clo (fun x hx y hy => ?_) ha r).1
  rw [adjS_mem]
  refine ⟨clo x hx y hy, hx, ?_⟩
  obtain ⟨c, hc, q⟩ := (adjL_mem h x y).mp hy
  obtain ⟨w, u, v⟩ := c
  rcases q with ⟨rfl, rfl⟩ | ⟨rfl, rfl⟩ <;> cases w <;> simp [sides, atA, atZ] <;> omega
end TS
/-! A37: is_piece -/
namespace TS
open PySem PySem.Spec PyProof.Rows L2 En EnK

/-- a piece -/
structure PcOk (l : List Fl) : Prop where
  rs : rise l = true
  ne : 1 ≤ l.length
  le : l.length ≤ 16
  bd : ∀ f ∈ l, inn f.1 = true ∧ inn f.2 = true
  jn : Join l
theorem fm_is_piece_eq (l : List Fl) (hl : l.length ≤ 400) : ∃ b, fm_is_piece [eFs l] = ok (.val (.bool b)) ∧ (b = true ↔ PcOk l) := by
  have lcF := eLc_of (α := Fl) eF (fun f => !(inn f.1 && inn f.2)) eF (t := .one 1) (vs := [1]) (it := iA (vVar 0)) (c := bNot (bT (oE (eCall 1 fm_is_field (lCons (oVar 1) lNil))))) (e := vVar 1) (ρ := [some (.val (eFs l)), none]) l (by simp [eFs]) (by simp) (by omega) (fun f _ => ⟨_, rfl, by simp [fm_is_field_eq], fun _ => by simp⟩)
  have r1 : fm_rises [eFs l] = ok (.val (.bool (rise l))) := fm_rises_F l (by omega)
  have hL : lenF [eFs l] = some (.val (.int l.length)) := by simp [eFs, lenF]
  have hi : isF "tuple" (eFs l) = some true := is_tt _
  generalize hF : l.filter (fun f => !(inn f.1 && inn f.2)) = gF at lcF
  by_cases c1 : 1 ≤ l.length ∧ l.length ≤ 16
  case neg =>
    refine ⟨false, ?_, by simp; exact fun g => c1 ⟨g.ne, g.le⟩⟩
    have c1' : ¬ ((1 : Int) ≤ l.length ∧ (l.length : Int) ≤ 16) := by omega
    by_cases d1 : (1 : Int) ≤ l.length
    · have d2 : ¬ ((l.length : Int) ≤ 16) := fun z => c1' ⟨d1, z⟩
      simp [fm_is_piece, m_is_piece, pLe, ok_ite, hL, hi, d1, d2]
    · simp [fm_is_piece, m_is_piece, pLe, ok_ite, hL, hi, d1]
  have d1 : (1 : Int) ≤ l.length := by omega
  have d2 : (l.length : Int) ≤ 16 := by omega
  by_cases c2 : gF = []
  case neg =>
    refine ⟨false, ?_, by
      simp; intro g; refine c2 ?_
      rw [← hF, List.filter_eq_nil_iff]
      intro f hf; have := g.bd f hf; simp [this]⟩
    simp [fm_is_piece, m_is_piece, pLe, ok_ite, hL, hi, d1, d2, lcF, c2]
  by_cases c3 : rise l = true
  case neg =>
    refine ⟨false, ?_, by simp; exact fun g => c3 g.rs⟩
    simp [fm_is_piece, m_is_piece, pLe, ok_ite, hL, hi, d1, d2, lcF, c2, r1, c3]
  have hb := fm_borders_of_t l (by omega)
  have hnd := ((rise_iff _).mp c3).2
  have hil := inner_len l
  have hp := fm_parts_of_g (eFs l) (.list ((inner l).map eB)) l (inner l) rfl rfl (by omega) (by omega) (fun b hb => (inner_mem _ _).mp hb) hnd
  refine ⟨decide ((lots l (adjL (inner l))).length = 1), ?_, ?_⟩
  · have hi2 : ∀ ls : List (List Fl), immA (ls.map eFs) = true := fun ls => by
      induction ls with
      | nil => rfl
      | cons l ls ih => simp [immA, ih]
    simp [fm_is_piece, m_is_piece, pLe, ok_ite, hL, hi, d1, d2, lcF, c2, r1, c3, hb, hp, hi2]
    have hc : ∀ n : Nat, ((n : Int) = 1) ↔ n = 1 := fun n => by omega
    simp only [hc]
  · rw [decide_eq_true_iff]
    have hne : l ≠ [] := fun e => by rw [e] at c1; simp at c1
    rw [lots, List.length_map, heads_one hne (adjL_symm _), ← join_inner]
    constructor
    · intro j
      refine ⟨c3, c1.1, c1.2, fun f hf => ?_, j⟩
      rw [c2, List.filter_eq_nil_iff] at hF
      have := hF f hf
      simpa using this
    · exact fun g => g.jn
theorem PcOk.lot {fs : List Fl} {ps h : List Br} (g : Gd fs ps) (hin : ∀ b ∈ h, atA b ∈ fs ∧ atZ b ∈ fs) {l : List Fl} (hl : l ∈ lots fs (adjL h)) : PcOk l := by
  obtain ⟨a, ha, e⟩ := lots_of hl
  have hlen := lots_len g.nd hl
  have hle := g.le
  refine ⟨(rise_iff _).mpr ?_, List.length_pos_iff.mpr (lots_ne hl), by omega, fun f hf => ?_, lots_join hin hl⟩
  · rw [e]; exact ⟨lotOf_srt _ _ _, lotOf_nd g.nd _ _⟩
  · rw [e] at hf
    exact g.bd f ((lotOf_mem _ _ _ _).mp hf).1
end TS
/-! A38: dicts with values -/
namespace TS
open PySem PySem.Spec PyProof.Rows L2 En EnK

section
variable {γ : Type} [DecidableEq γ] [EnK γ]
def kvG (xs : List (γ × D)) : List (D × D) := xs.map fun p => (en p.1, p.2)
theorem dFind_kvG (a : γ) : ∀ xs : List (γ × D), dFind (kvG xs) (ks a) = (xs.find? fun p => decide (p.1 = a)).map Prod.snd
  | [] => rfl
  | x :: xs => by
    have ih := dFind_kvG a xs
    simp only [dFind, kvG, List.map_cons, List.find?_cons, nkey_en, Option.some.injEq] at ih ⊢
    by_cases h : x.1 = a
    · simp [h]
    · have : ks x.1 ≠ ks a := fun e => h (inj _ _ e)
      simp only [this, decide_false, h]
      exact ih
theorem dFind_new {xs : List (γ × D)} {a : γ} (h : a ∉ xs.map Prod.fst) : dFind (kvG xs) (ks a) = none := by
  rw [dFind_kvG, Option.map_eq_none_iff, List.find?_eq_none]
  intro p hp
  simp only [decide_eq_true_eq]
  exact fun e => h (List.mem_map.mpr ⟨p, hp, e⟩)
theorem dPut_new {xs : List (γ × D)} {a : γ} (v : D) (h : a ∉ xs.map Prod.fst) : dPut (kvG xs) (ks a) (en a) v = kvG (xs ++ [(a, v)]) := by
  rw [dPut, dFind_new h]
  simp [kvG]
theorem kvG_len (xs : List (γ × D)) : (kvG xs).length = xs.length := by simp [kvG]
theorem mDcI_new {β : Type} (enc1 : β → D) (f : β → γ) (v : β → D) {t1 : Tgt} {vs1 : List Nat} {km vm : OM} {ρ1 : Regs} : ∀ (ys : List β) (acc : List (γ × D)), acc.length + ys.length ≤ 1000 → (acc.map Prod.fst ++ ys.map f).Nodup → (∀ b ∈ ys, ∃ ρ2, tgtM t1 (enc1 b) (wipeR ρ1 vs1) = some ρ2 ∧ km ρ2 = ok (en (f b)) ∧ vm ρ2 = ok (v b)) →
    mDcI t1 vs1 km vm ρ1 (ys.map enc1) (kvG acc) = some (kvG (acc ++ ys.map fun b => (f b, v b)))
  | [], acc, _, _, _ => by simp [mDcI]
  | b :: ys, acc, hl, hn, h => by
    obtain ⟨ρ2, h1, h2, h3⟩ := h b List.mem_cons_self
    simp only [List.length_cons] at hl
    have hk : (kvG acc).length < 1000 := by rw [kvG_len]; omega
    have hb : f b ∉ acc.map Prod.fst := fun z => by
      rw [List.map_cons, List.nodup_append] at hn
      exact hn.2.2 _ z _ (by simp) rfl
    rw [List.map_cons, mDcI, h1]
    simp only [h2, h3, ok, kof, hk, if_true, dPut_new (v b) hb]
    rw [mDcI_new enc1 f v ys _ (by rw [List.length_append, List.length_singleton]; omega) (by simpa using hn) fun c hc => h c (List.mem_cons_of_mem _ hc)]
    simp
theorem mDc2_new {α β : Type} (enc : α → D) (enc1 : β → D) (F : α → List β) (f : α → β → γ) (v : α → β → D) {t t1 : Tgt} {vs vs1 : List Nat} {it1 : LM} {km vm : OM} {ρ : Regs} : ∀ (xs : List α) (acc : List (γ × D)), acc.length + (xs.flatMap F).length ≤ 1000 → (acc.map Prod.fst ++ xs.flatMap fun a => (F a).map (f a)).Nodup →
    (∀ a ∈ xs, ∃ ρ1, tgtM t (enc a) (wipeR ρ vs) = some ρ1 ∧ plainAt ρ1 vs = true ∧ it1 ρ1 = ok ((F a).map enc1) ∧ ∀ b ∈ F a, ∃ ρ2, tgtM t1 (enc1 b) (wipeR ρ1 vs1) = some ρ2 ∧ km ρ2 = ok (en (f a b)) ∧ vm ρ2 = ok (v a b)) →
    mDc2 t vs it1 t1 vs1 km vm ρ (xs.map enc) (kvG acc) = some (kvG (acc ++ xs.flatMap fun a => (F a).map fun b => (f a b, v a b)))
  | [], acc, _, _, _ => by simp [mDc2]
  | a :: xs, acc, hl, hn, h => by
    obtain ⟨ρ1, h1, h2, h3, h4⟩ := h a List.mem_cons_self
    simp only [List.flatMap_cons, List.length_append] at hl
    rw [List.flatMap_cons, ← List.append_assoc] at hn
    have hI := mDcI_new enc1 (f a) (v a) (F a) acc (by omega) (List.nodup_append.mp hn).1 h4
    rw [List.map_cons, mDc2, h1]
    simp only [h2, if_true, h3, ok, hI]
    rw [mDc2_new enc enc1 F f v xs _ (by rw [List.length_append, List.length_map]; omega) (by
      have e : ((F a).map fun b => (f a b, v a b)).map Prod.fst = (F a).map (f a) := by rw [List.map_map]; rfl
      rw [List.map_append, e]; exact hn) fun b hb => h b (List.mem_cons_of_mem _ hb)]
    simp
theorem eDc2_new {α β : Type} (enc : α → D) (enc1 : β → D) (F : α → List β) (f : α → β → γ) (v : α → β → D) {t t1 : Tgt} {vs vs1 : List Nat} {it it1 : LM} {km vm : OM} {ρ : Regs} (xs : List α) (hi : it ρ = ok (xs.map enc)) (hp : plainAt ρ vs = true) (hl : (xs.flatMap F).length ≤ 1000) (hn : (xs.flatMap fun a => (F a).map (f a)).Nodup)
    (h : ∀ a ∈ xs, ∃ ρ1, tgtM t (enc a) (wipeR ρ vs) = some ρ1 ∧ plainAt ρ1 vs = true ∧ it1 ρ1 = ok ((F a).map enc1) ∧ ∀ b ∈ F a, ∃ ρ2, tgtM t1 (enc1 b) (wipeR ρ1 vs1) = some ρ2 ∧ km ρ2 = ok (en (f a b)) ∧ vm ρ2 = ok (v a b)) :
    eDc2 t vs it it1 t1 vs1 km vm ρ = ok (.ownD (kvG (xs.flatMap fun a => (F a).map fun b => (f a b, v a b)))) := by
  have := mDc2_new enc enc1 F f v (t := t) (t1 := t1) (vs := vs) (vs1 := vs1) (it1 := it1) (km := km) (vm := vm) (ρ := ρ) xs [] (by simpa using hl) (by simpa using hn) h
  simp only [kvG, List.map_nil, List.nil_append] at this
  simp only [eDc2, hi, eb_ok, hp, if_true, this]
  rfl
end
/-- at which place a field is -/
def ixP (f : Fl) : List (List Fl) → Nat
  | [] => 0
  | l :: P => if f ∈ l then 0 else ixP f P + 1
def pl : Nat → List (List Fl) → List (Fl × D)
  | _, [] => []
  | k, l :: P => (l.map fun f => (f, .int k)) ++ pl (k + 1) P
theorem pl_zip : ∀ (k : Nat) (P : List (List Fl)), ((P.zipIdx k).flatMap fun q => q.1.map fun f => (f, PyData.int q.2)) = pl k P
  | k, [] => rfl
  | k, l :: P => by rw [List.zipIdx_cons, List.flatMap_cons, pl_zip (k + 1) P, pl]
theorem pl_find {f : Fl} : ∀ (k : Nat) (P : List (List Fl)), f ∈ P.flatten → dFind (kvG (pl k P)) (kF f) = some (.int ((k + ixP f P : Nat) : Int))
  | k, [], h => by simp at h
  | k, l :: P, h => by
    have e : dFind (kvG (pl k (l :: P))) (kF f) = ((pl k (l :: P)).find? fun p => decide (p.1 = f)).map Prod.snd := dFind_kvG f _
    rw [e, pl, List.find?_append]
    by_cases q : f ∈ l
    · have h2 : (l.map fun g => (g, PyData.int k)).find? (fun p => decide (p.1 = f)) = some (f, .int k) := by
        rw [List.find?_map]
        have h3 : l.find? ((fun p : Fl × D => decide (p.1 = f)) ∘ fun g => (g, PyData.int k)) = some f := by
          cases h4 : l.find? ((fun p : Fl × D => decide (p.1 = f)) ∘ fun g => (g, PyData.int k)) with
          | none =>
            have := List.find?_eq_none.mp h4 f q
            simp at this
          | some g =>
            have := List.find?_some h4
            simp at this
            rw [this]
        rw [h3]; rfl
      simp [h2, ixP, q]
    · have h2 : (l.map fun g => (g, PyData.int k)).find? (fun p => decide (p.1 = f)) = none := by
        rw [List.find?_eq_none]
        intro p hp
        obtain ⟨g, hg, rfl⟩ := List.mem_map.mp hp
        simp only [decide_eq_true_eq]
        rintro rfl
        exact q hg
      have ih := pl_find (f := f) (k + 1) P (by
        rw [List.flatten_cons, List.mem_append] at h
        exact h.resolve_left q)
      have e2 : dFind (kvG (pl (k + 1) P)) (kF f) = ((pl (k + 1) P).find? fun p => decide (p.1 = f)).map Prod.snd := dFind_kvG f _
      rw [e2] at ih
      rw [h2, Option.none_or, ih, ixP, if_neg q]
      congr 3; omega
theorem ixP_eq {f g : Fl} : ∀ P : List (List Fl), P.flatten.Nodup → f ∈ P.flatten → g ∈ P.flatten → (ixP f P = ixP g P ↔ ∃ l ∈ P, f ∈ l ∧ g ∈ l)
  | [], _, h, _ => by simp at h
  | l :: P, hn, hf, hg => by
    rw [List.flatten_cons, List.nodup_append] at hn
    obtain ⟨n1, n2, n3⟩ := hn
    rw [List.flatten_cons, List.mem_append] at hf hg
    have in_fl : ∀ {x : Fl} {m : List Fl}, m ∈ P → x ∈ m → x ∈ P.flatten := fun hm hx => List.mem_flatten.mpr ⟨_, hm, hx⟩
    by_cases qf : f ∈ l <;> by_cases qg : g ∈ l
    · simp [ixP, qf, qg]
    · simp only [ixP, qf, qg, if_true, if_false, List.mem_cons]
      refine ⟨fun z => by omega, ?_⟩
      rintro ⟨m, rfl | hm, h1, h2⟩
      · exact (qg h2).elim
      · exact (n3 f qf f (in_fl hm h1) rfl).elim
    · simp only [ixP, qf, qg, if_true, if_false, List.mem_cons]
      refine ⟨fun z => by omega, ?_⟩
      rintro ⟨m, rfl | hm, h1, h2⟩
      · exact (qf h1).elim
      · exact (n3 g qg g (in_fl hm h2) rfl).elim
    · have ih := ixP_eq P n2 (hf.resolve_left qf) (hg.resolve_left qg)
      simp only [ixP, qf, qg, if_false, List.mem_cons]
      rw [Nat.add_right_cancel_iff, ih]
      constructor
      · rintro ⟨m, hm, h⟩; exact ⟨m, .inr hm, h⟩
      · rintro ⟨m, rfl | hm, h⟩
        · exact (qf h.1).elim
        · exact ⟨m, hm, h⟩
end TS
/-! kinds -/
namespace TS
open PySem PySem.Spec PyProof.Rows L2 En EnK

def rotF (f : Fl) : Fl := (-f.2, f.1)
def mirF (f : Fl) : Fl := (-f.1, f.2)
def mnI (xs : List Int) : Int := match xs with
  | [] => 0
  | x :: xs => minI x xs
/-- moved to nought -/
def mvF (L : List Fl) : List Fl := sE (L.map fun f => (f.1 - mnI (L.map Prod.fst), f.2 - mnI (L.map Prod.snd)))
/-- the least -/
def leastE {α : Type} [DecidableEq α] [En α] (a : α) (xs : List α) : α := xs.foldl (fun m y => if leE m y = true then m else y) a
theorem leastE_is {α : Type} [DecidableEq α] [En α] : ∀ (xs : List α) (a : α), leastE a xs ∈ a :: xs ∧ ∀ y ∈ a :: xs, leE (leastE a xs) y = true
  | [], a => ⟨by simp [leastE], fun y hy => by simp at hy; subst hy; simp [leastE, leE_refl]⟩
  | x :: xs, a => by
    have e : leastE a (x :: xs) = leastE (if leE a x = true then a else x) xs := rfl
    obtain ⟨h1, h2⟩ := leastE_is xs (if leE a x = true then a else x)
    rw [e]
    refine ⟨?_, fun y hy => ?_⟩
    · rcases List.mem_cons.mp h1 with h | h
      · rw [h]; split <;> simp
      · simp [h]
    · have h0 := h2 _ List.mem_cons_self
      rcases List.mem_cons.mp hy with rfl | hy
      · refine Ord.tr _ _ _ h0 ?_
        split
        · exact leE_refl _
        · rename_i q
          have := Ord.tot y x
          simpa [q] using this
      · rcases List.mem_cons.mp hy with rfl | hy
        · refine Ord.tr _ _ _ h0 ?_
          split
          · assumption
          · exact leE_refl _
        · exact h2 y (List.mem_cons_of_mem _ hy)
theorem least_same {α : Type} [DecidableEq α] [En α] {a b : α} {xs ys : List α} (h : ∀ z, z ∈ a :: xs ↔ z ∈ b :: ys) : leastE a xs = leastE b ys := by
  obtain ⟨h1, h2⟩ := leastE_is xs a
  obtain ⟨h3, h4⟩ := leastE_is ys b
  exact Ord.anti _ _ (h2 _ ((h _).mpr h3)) (h4 _ ((h _).mp h1))
theorem intsL_map (xs : List Int) : intsL (.list (xs.map .int)) = some xs := by
  show intsF (xs.map .int) = some xs
  induction xs with
  | nil => rfl
  | cons x xs ih => simp [intsF, ih]
theorem rot4 (f : Fl) : rotF (rotF (rotF (rotF f))) = f := by
  obtain ⟨x, y⟩ := f; simp [rotF]
theorem rot_mir (f : Fl) : rotF (mirF f) = mirF (rotF (rotF (rotF f))) := by
  obtain ⟨x, y⟩ := f; simp [rotF, mirF]
theorem fm_moved_eq (d : D) (L : List Fl) (hd : itF d = some (L.map eF)) (hne : L ≠ []) (hl : L.length ≤ 400) : fm_moved [d] = ok (.val (eFs (mvF L))) := by
  have l1 := eLc_of (α := Fl) eF (fun _ => true) (fun f => .int f.1) (t := .tup [3, 4]) (vs := [3, 4]) (it := iA (vVar 0)) (c := bYes) (e := vVar 3) (ρ := [some (.val d), none, none, none, none]) L (by simp [hd]) (by simp) (by omega) (fun f _ => ⟨_, rfl, by simp, fun _ => by simp⟩)
  have l2 := eLc_of (α := Fl) eF (fun _ => true) (fun f => .int f.2) (t := .tup [3, 4]) (vs := [3, 4]) (it := iA (vVar 0)) (c := bYes) (e := vVar 4) (ρ := [some (.val d), none, none, none, none]) L (by simp [hd]) (by simp) (by omega) (fun f _ => ⟨_, rfl, by simp, fun _ => by simp⟩)
  have l3 := eLc_of (α := Fl) eF (fun _ => true) (fun f => eF (f.1 - mnI (L.map Prod.fst), f.2 - mnI (L.map Prod.snd))) (t := .tup [3, 4]) (vs := [3, 4]) (it := iA (vVar 0)) (c := bYes) (e := vTup (lCons (oE (e2 (iF yes2 fun i j => i - j) (oVar 3) (oVar 1))) (lCons (oE (e2 (iF yes2 fun i j => i - j) (oVar 4) (oVar 2))) (lNil)))) (ρ := [some (.val d), some (.val (.int (mnI (L.map Prod.fst)))), some (.val (.int (mnI (L.map Prod.snd)))), none, none]) L (by simp [hd]) (by simp) (by omega) (fun f _ => ⟨_, rfl, by simp, fun _ => by simp [eF]⟩)
  simp only [flt_t] at l1 l2 l3
  have m1 : minF1 [.list (L.map fun f => .int f.1)] = some (.val (.int (mnI (L.map Prod.fst)))) := by
    have : (L.map fun f => PyData.int f.1) = (L.map Prod.fst).map .int := by rw [List.map_map]; rfl
    cases L with
    | nil => exact absurd rfl hne
    | cons x L => rw [this]; simp only [minF1, intsL_map]; rfl
  have m2 : minF1 [.list (L.map fun f => .int f.2)] = some (.val (.int (mnI (L.map Prod.snd)))) := by
    have : (L.map fun f => PyData.int f.2) = (L.map Prod.snd).map .int := by rw [List.map_map]; rfl
    cases L with
    | nil => exact absurd rfl hne
    | cons x L => rw [this]; simp only [minF1, intsL_map]; rfl
  rw [show (L.map fun f => eF (f.1 - mnI (L.map Prod.fst), f.2 - mnI (L.map Prod.snd))) = (L.map fun f => (f.1 - mnI (L.map Prod.fst), f.2 - mnI (L.map Prod.snd))).map eF by rw [List.map_map]; rfl] at l3
  have m3 := sorted_l (L.map fun f => (f.1 - mnI (L.map Prod.fst), f.2 - mnI (L.map Prod.snd))) (by simp; omega)
  have m4 := tup_F (mvF L) (by rw [mvF, sE_len]; simp; omega)
  have m3' : sortedF [.list ((L.map fun f => (f.1 - mnI (L.map Prod.fst), f.2 - mnI (L.map Prod.snd))).map eF)] = some (.ownL ((mvF L).map eF)) := m3
  generalize (L.map fun f => (f.1 - mnI (L.map Prod.fst), f.2 - mnI (L.map Prod.snd))).map eF = x3 at l3 m3'
  generalize (L.map fun f => PyData.int f.1) = x1 at l1 m1
  generalize (L.map fun f => PyData.int f.2) = x2 at l2 m2
  simp [fm_moved, m_moved, l1, l2, m1, m2, l3, m3', m4]
end TS
/-! kinds: kind_of, the law's kind -/
namespace TS
open PySem PySem.Spec PyProof.Rows L2 En EnK

theorem minD_en {α : Type} [DecidableEq α] [En α] (x : α) (xs : List α) : W.minD (en x) (xs.map en) = en (leastE x xs) := by
  unfold W.minD leastE
  induction xs generalizing x with
  | nil => rfl
  | cons y ys ih =>
    rw [List.map_cons, List.foldl_cons, List.foldl_cons]
    have e : (if W.dataLt (en y) (en x) = true then en y else en x) = en (if leE x y = true then x else y) := by
      rw [leE_lt]
      cases W.dataLt (en y) (en x) <;> rfl
    rw [e]
    exact ih _
theorem minG_Fs (x : List Fl) (xs : List (List Fl)) : minG [.list ((x :: xs).map eFs)] = some (.val (eFs (leastE x xs))) := by
  have h1 : immA ((x :: xs).map eFs) = true := immAll (x :: xs)
  have h2 : alkB ((x :: xs).map eFs) := by
    refine ⟨?_, ?_⟩
    · rw [List.all_eq_true]; intro d hd
      rw [List.all_eq_true]; intro e he
      obtain ⟨a, _, rfl⟩ := List.mem_map.mp hd
      obtain ⟨b, _, rfl⟩ := List.mem_map.mp he
      exact alk a b
    · rw [List.all_eq_true]; intro d hd
      obtain ⟨a, _, rfl⟩ := List.mem_map.mp hd
      rfl
  have h3 : PyData.depthAll ((x :: xs).map eFs) ≤ 60 := depAll (x :: xs)
  have h4 : SeqAt.shaped (.list ((x :: xs).map eFs)) = true := shpL (x :: xs)
  have h5 : W.minD (eFs x) (xs.map eFs) = eFs (leastE x xs) := minD_en x xs
  rw [List.map_cons] at h1 h2 h3 h4 ⊢
  show (if immA (eFs x :: xs.map eFs) = true ∧ alkB (eFs x :: xs.map eFs) ∧ PyData.depthAll (eFs x :: xs.map eFs) ≤ 60 ∧ SeqAt.shaped (.list (eFs x :: xs.map eFs)) = true then some (RV.val (W.minD (eFs x) (xs.map eFs))) else none) = _
  rw [if_pos ⟨h1, h2, h3, h4⟩, h5]
def rotN : Nat → List Fl → List Fl
  | 0, L => L
  | n + 1, L => (rotN n L).map rotF
def fmsA (L : List Fl) : Nat → List (List Fl)
  | 0 => []
  | n + 1 => fmsA L n ++ [mvF (rotN (n + 1) L)] ++ [mvF ((rotN (n + 1) L).map mirF)]
theorem rotN_len (n : Nat) (L : List Fl) : (rotN n L).length = L.length := by
  induction n with
  | zero => rfl
  | succ n ih => simp [rotN, ih]
theorem fmsA_len (n : Nat) (L : List Fl) : (fmsA L n).length = 2 * n := by
  induction n with
  | zero => rfl
  | succ n ih => simp [fmsA, ih]; omega
theorem len_ne {L M : List Fl} (h : M.length = L.length) (hL : L ≠ []) : M ≠ [] := fun e => by
  rw [e] at h; exact hL (List.length_eq_zero_iff.mp h.symm)
/-- the kind -/
def kindF (L : List Fl) : List Fl := leastE (mvF (rotN 1 L)) ((fmsA L 4).drop 1)
theorem kind_of_eq (L : List Fl) (hne : L ≠ []) (hl : L.length ≤ 400) : fm_kind_of [eFs L] = ok (.val (eFs (kindF L))) := by
  obtain ⟨ρ', e1, rv, a2, hrv, rfl⟩ := mFor_of (α := Nat) nI (t := .one 2) (m := mb_kind_of_1) (fun pre ρ => ∃ rv a2, itF rv.dat = some ((rotN pre.length L).map eF) ∧ ρ = [some rv, some (.ownL ((fmsA L pre.length).map eFs)), a2, none, none]) (List.range 4) (by
    rintro pre a post ρ e ⟨rv, a2, hrv, rfl⟩
    have hl4 : pre.length < 4 := by
      have := congrArg List.length e
      simp at this; omega
    have hr := rotN_len pre.length L
    have hr1 := rotN_len (pre.length + 1) L
    have hf := fmsA_len pre.length L
    have l1 := eLc_of (α := Fl) eF (fun _ => true) (fun f => eF (rotF f)) (t := .tup [3, 4]) (vs := [3, 4]) (it := iA (vVar 0)) (c := bYes) (e := vTup (lCons (vNeg (oVar 4)) (lCons (vVar 3) (lNil)))) (ρ := [some (.val rv.dat), some (.ownL ((fmsA L pre.length).map eFs)), some (.val (nI a)), none, none]) (rotN pre.length L) (by simp [hrv]) (by simp) (by omega) (fun f _ => ⟨_, rfl, by simp, fun _ => by simp [eF, rotF]⟩)
    have l2 := eLc_of (α := Fl) eF (fun _ => true) (fun f => eF (mirF f)) (t := .tup [3, 4]) (vs := [3, 4]) (it := iA (vVar 0)) (c := bYes) (e := vTup (lCons (vNeg (oVar 3)) (lCons (vVar 4) (lNil)))) (ρ := [some (.val (.list ((rotN (pre.length + 1) L).map eF))), some (.ownL ((fmsA L pre.length ++ [mvF (rotN (pre.length + 1) L)]).map eFs)), some (.val (nI a)), none, none]) (rotN (pre.length + 1) L) (by simp) (by simp) (by omega) (fun f _ => ⟨_, rfl, by simp, fun _ => by simp [eF, mirF]⟩)
    simp only [flt_t] at l1 l2
    rw [show ((rotN pre.length L).map fun f => eF (rotF f)) = (rotN (pre.length + 1) L).map eF by rw [rotN, List.map_map]; rfl] at l1
    rw [show ((rotN (pre.length + 1) L).map fun f => eF (mirF f)) = ((rotN (pre.length + 1) L).map mirF).map eF by rw [List.map_map]; rfl] at l2
    have m1 := fm_moved_eq (.list ((rotN (pre.length + 1) L).map eF)) (rotN (pre.length + 1) L) rfl (len_ne hr1 hne) (by omega)
    have m2 := fm_moved_eq (.list (((rotN (pre.length + 1) L).map mirF).map eF)) ((rotN (pre.length + 1) L).map mirF) rfl (len_ne (by rw [List.length_map, hr1]) hne) (by rw [List.length_map]; omega)
    refine ⟨_, [some (.val (.list ((rotN (pre.length + 1) L).map eF))), some (.ownL ((fmsA L (pre.length + 1)).map eFs)), some (.val (nI a)), none, none], rfl, ?_, .val (.list ((rotN (pre.length + 1) L).map eF)), some (.val (nI a)), by simp, by simp⟩
    have hf1 : (fmsA L pre.length).length < 1000 := by omega
    have hf2 : (fmsA L pre.length).length + 1 < 1000 := by omega
    have ea : ((fmsA L pre.length ++ [mvF (rotN (pre.length + 1) L)]).map eFs) = (fmsA L pre.length).map eFs ++ [eFs (mvF (rotN (pre.length + 1) L))] := by simp
    have eb : ((fmsA L (pre.length + 1)).map eFs) = (fmsA L pre.length).map eFs ++ [eFs (mvF (rotN (pre.length + 1) L))] ++ [eFs (mvF ((rotN (pre.length + 1) L).map mirF))] := by simp [fmsA]
    rw [eb]
    rw [ea] at l2
    generalize (rotN (pre.length + 1) L).map eF = q1 at l1 l2 m1 ⊢
    generalize ((rotN (pre.length + 1) L).map mirF).map eF = q2 at l2 m2 ⊢
    simp only [mb_kind_of_1, u_sSeq, u_sFrz, u_frz, List.getElem?_cons_zero, List.set_cons_zero, u_sSet, u_sb, tgtM, List.set_cons_succ, l1, u_sb_ok, u_sApp, u_regL, List.getElem?_cons_succ, u_oE, u_eCall, u_lCons, u_lNil, u_oVar, u_dl, u_dv, eb_ok, List.length_cons, List.length_nil, m1, m2, u_iv, if_true, List.length_map, hf1, l2, List.length_append, hf2]
    simp [l2, m1, m2, hf1, hf2]) [some (.val (eFs L)), some (.ownL []), none, none, none] ⟨_, _, rfl, rfl⟩
  simp only [List.length_range] at e1
  have e : fmsA L 4 = mvF (rotN 1 L) :: (fmsA L 4).drop 1 := by rfl
  have hm := minG_Fs (mvF (rotN 1 L)) ((fmsA L 4).drop 1)
  rw [← e] at hm
  simp [fm_kind_of, m_kind_of, rng0, e1, hm, kindF]
end TS
/-! the law's kind -/
namespace TS
open PySem PySem.Spec PyProof.Rows L2 En EnK
theorem min_fst {L : List Fl} (hne : L ≠ []) : minF1 [.list (L.map fun f => .int f.1)] = some (.val (.int (mnI (L.map Prod.fst)))) := by
  have : (L.map fun f => PyData.int f.1) = (L.map Prod.fst).map .int := by rw [List.map_map]; rfl
  cases L with
  | nil => exact absurd rfl hne
  | cons x L => rw [this]; simp only [minF1, intsL_map]; rfl
theorem min_snd {L : List Fl} (hne : L ≠ []) : minF1 [.list (L.map fun f => .int f.2)] = some (.val (.int (mnI (L.map Prod.snd)))) := by
  have : (L.map fun f => PyData.int f.2) = (L.map Prod.snd).map .int := by rw [List.map_map]; rfl
  cases L with
  | nil => exact absurd rfl hne
  | cons x L => rw [this]; simp only [minF1, intsL_map]; rfl
def smN : Nat → List Fl → List Fl
  | 0, L => L
  | n + 1, L => if n = 4 then ((smN n L).map rotF).map mirF else (smN n L).map rotF
def fmsB (L : List Fl) : Nat → List (List Fl)
  | 0 => []
  | n + 1 => fmsB L n ++ [mvF (smN (n + 1) L)]
theorem smN_len (n : Nat) (L : List Fl) : (smN n L).length = L.length := by
  induction n with
  | zero => rfl
  | succ n ih => rw [smN]; split <;> simp [ih]
theorem fmsB_len (n : Nat) (L : List Fl) : (fmsB L n).length = n := by
  induction n with
  | zero => rfl
  | succ n ih => simp [fmsB, ih]
/-- the statements behind the turn: moved, kept -/
theorem lk_tail {P F a4 a5 a6 a7 : Option RV} {M : List Fl} {d : D} {fo : List D} (hd : itF d = some (M.map eF)) (hne : M ≠ []) (hl : M.length ≤ 400) (hf : fo.length < 1000) (tm : Option RV) (a6 a7 : Option RV) :
    sSeq (sFrz 2 (sPar 6 7 (eL minF1 (lCons (oE (eLc (.tup [4, 5]) [4, 5] (iA (vVar 2)) (bYes) (vVar 4))) (lNil))) (eL minF1 (lCons (oE (eLc (.tup [4, 5]) [4, 5] (iA (vVar 2)) (bYes) (vVar 5))) (lNil))))) (sApp 1 (oE (eL tupleF (lCons (oE (eL sortedF (lCons (oE (eLc (.tup [4, 5]) [4, 5] (iA (vVar 2)) (bYes) (vTup (lCons (oE (e2 (iF yes2 fun i j => i - j) (oVar 4) (oVar 6))) (lCons (oE (e2 (iF yes2 fun i j => i - j) (oVar 5) (oVar 7))) (lNil)))))) (lNil)))) (lNil))))) [P, some (.ownL fo), some (.ownL (M.map eF)), tm, none, none, a6, a7]
    = some (.nx [P, some (.ownL (fo ++ [eFs (mvF M)])), some (.val (.list (M.map eF))), tm, none, none, some (.val (.int (mnI (M.map Prod.fst)))), some (.val (.int (mnI (M.map Prod.snd))))]) := by
  have l1 := eLc_of (α := Fl) eF (fun _ => true) (fun f => .int f.1) (t := .tup [4, 5]) (vs := [4, 5]) (it := iA (vVar 2)) (c := bYes) (e := vVar 4) (ρ := [P, some (.ownL fo), some (.val (.list (M.map eF))), tm, none, none, a6, a7]) M (by simp) (by simp) (by omega) (fun f _ => ⟨_, rfl, by simp, fun _ => by simp⟩)
  have l2 := eLc_of (α := Fl) eF (fun _ => true) (fun f => .int f.2) (t := .tup [4, 5]) (vs := [4, 5]) (it := iA (vVar 2)) (c := bYes) (e := vVar 5) (ρ := [P, some (.ownL fo), some (.val (.list (M.map eF))), tm, none, none, a6, a7]) M (by simp) (by simp) (by omega) (fun f _ => ⟨_, rfl, by simp, fun _ => by simp⟩)
  have l3 := eLc_of (α := Fl) eF (fun _ => true) (fun f => eF (f.1 - mnI (M.map Prod.fst), f.2 - mnI (M.map Prod.snd))) (t := .tup [4, 5]) (vs := [4, 5]) (it := iA (vVar 2)) (c := bYes) (e := vTup (lCons (oE (e2 (iF yes2 fun i j => i - j) (oVar 4) (oVar 6))) (lCons (oE (e2 (iF yes2 fun i j => i - j) (oVar 5) (oVar 7))) (lNil)))) (ρ := [P, some (.ownL fo), some (.val (.list (M.map eF))), tm, none, none, some (.val (.int (mnI (M.map Prod.fst)))), some (.val (.int (mnI (M.map Prod.snd))))]) M (by simp) (by simp) (by omega) (fun f _ => ⟨_, rfl, by simp, fun _ => by simp [eF]⟩)
  simp only [flt_t] at l1 l2 l3
  have m1 := min_fst hne
  have m2 := min_snd hne
  rw [show (M.map fun f => eF (f.1 - mnI (M.map Prod.fst), f.2 - mnI (M.map Prod.snd))) = (M.map fun f => (f.1 - mnI (M.map Prod.fst), f.2 - mnI (M.map Prod.snd))).map eF by rw [List.map_map]; rfl] at l3
  have m3 : sortedF [.list ((M.map fun f => (f.1 - mnI (M.map Prod.fst), f.2 - mnI (M.map Prod.snd))).map eF)] = some (.ownL ((mvF M).map eF)) := sorted_l (M.map fun f => (f.1 - mnI (M.map Prod.fst), f.2 - mnI (M.map Prod.snd))) (by simp; omega)
  have m4 := tup_F (mvF M) (by rw [mvF, sE_len]; simp; omega)
  generalize (M.map fun f => (f.1 - mnI (M.map Prod.fst), f.2 - mnI (M.map Prod.snd))).map eF = x3 at l3 m3
  generalize (M.map fun f => PyData.int f.1) = x1 at l1 m1
  generalize (M.map fun f => PyData.int f.2) = x2 at l2 m2
  simp [l1, l2, m1, m2, l3, m3, m4, hf]
theorem law_kind_eq (L : List Fl) (hne : L ≠ []) (hl : L.length ≤ 400) : fm_law_kind [eFs L] = ok (.val (eFs (leastE (mvF (smN 1 L)) ((fmsB L 8).drop 1)))) := by
  obtain ⟨ρ', e1, rv, a3, a6, a7, hrv, rfl⟩ := mFor_of (α := Nat) nI (t := .one 3) (m := mb_law_kind_1) (fun pre ρ => ∃ rv a3 a6 a7, itF rv.dat = some ((smN pre.length L).map eF) ∧ ρ = [some (.val (eFs L)), some (.ownL ((fmsB L pre.length).map eFs)), some rv, a3, none, none, a6, a7]) (List.range 8) (by
    rintro pre a post ρ e ⟨rv, a3, a6, a7, hrv, rfl⟩
    have hl8 : pre.length < 8 := by
      have := congrArg List.length e
      simp at this; omega
    have hap : a = pre.length := by
      have h1 : (List.range 8)[pre.length]? = some a := by rw [← e]; simp
      rw [List.getElem?_range hl8] at h1
      simpa using h1.symm
    have hr := smN_len pre.length L
    have hr1 := smN_len (pre.length + 1) L
    have hf := fmsB_len pre.length L
    have l1 := eLc_of (α := Fl) eF (fun _ => true) (fun f => eF (rotF f)) (t := .tup [4, 5]) (vs := [4, 5]) (it := iA (vVar 2)) (c := bYes) (e := vTup (lCons (vNeg (oVar 5)) (lCons (vVar 4) (lNil)))) (ρ := [some (.val (eFs L)), some (.ownL ((fmsB L pre.length).map eFs)), some (.val rv.dat), some (.val (nI a)), none, none, a6, a7]) (smN pre.length L) (by simp [hrv]) (by simp) (by omega) (fun f _ => ⟨_, rfl, by simp, fun _ => by simp [eF, rotF]⟩)
    have l2 := eLc_of (α := Fl) eF (fun _ => true) (fun f => eF (mirF f)) (t := .tup [4, 5]) (vs := [4, 5]) (it := iA (vVar 2)) (c := bYes) (e := vTup (lCons (vNeg (oVar 4)) (lCons (vVar 5) (lNil)))) (ρ := [some (.val (eFs L)), some (.ownL ((fmsB L pre.length).map eFs)), some (.val (.list (((smN pre.length L).map rotF).map eF))), some (.val (nI a)), none, none, a6, a7]) ((smN pre.length L).map rotF) (by simp) (by simp) (by rw [List.length_map]; omega) (fun f _ => ⟨_, rfl, by simp, fun _ => by simp [eF, mirF]⟩)
    simp only [flt_t] at l1 l2
    rw [show ((smN pre.length L).map fun f => eF (rotF f)) = ((smN pre.length L).map rotF).map eF by rw [List.map_map]; rfl] at l1
    rw [show (((smN pre.length L).map rotF).map fun f => eF (mirF f)) = (((smN pre.length L).map rotF).map mirF).map eF by simp only [List.map_map]; rfl] at l2
    have tl := lk_tail (P := some (.val (eFs L))) (F := none) (a4 := none) (a5 := none) (a6 := none) (a7 := none) (M := smN (pre.length + 1) L) (d := .list ((smN (pre.length + 1) L).map eF)) (fo := (fmsB L pre.length).map eFs) rfl (len_ne hr1 hne) (by omega) (by rw [List.length_map]; omega) (some (.val (nI a))) a6 a7
    refine ⟨_, [some (.val (eFs L)), some (.ownL ((fmsB L (pre.length + 1)).map eFs)), some (.val (.list ((smN (pre.length + 1) L).map eF))), some (.val (nI a)), none, none, some (.val (.int (mnI ((smN (pre.length + 1) L).map Prod.fst)))), some (.val (.int (mnI ((smN (pre.length + 1) L).map Prod.snd))))], rfl, ?_, .val (.list ((smN (pre.length + 1) L).map eF)), some (.val (nI a)), _, _, by simp, by simp; exact ⟨rfl, rfl⟩⟩
    have eb : ((fmsB L (pre.length + 1)).map eFs) = (fmsB L pre.length).map eFs ++ [eFs (mvF (smN (pre.length + 1) L))] := by simp [fmsB]
    rw [eb]
    have e0 : sSeq (sFrz 2 (sSet 2 (eLc (.tup [4, 5]) [4, 5] (iA (vVar 2)) (bYes) (vTup (lCons (vNeg (oVar 5)) (lCons (vVar 4) (lNil))))))) (sIf (b2 eqF (oVar 3) (oC (.int 4))) (sFrz 2 (sSet 2 (eLc (.tup [4, 5]) [4, 5] (iA (vVar 2)) (bYes) (vTup (lCons (vNeg (oVar 4)) (lCons (vVar 5) (lNil))))))) (sSkip)) [some (.val (eFs L)), some (.ownL ((fmsB L pre.length).map eFs)), some rv, some (.val (nI a)), none, none, a6, a7] = some (.nx [some (.val (eFs L)), some (.ownL ((fmsB L pre.length).map eFs)), some (.ownL ((smN (pre.length + 1) L).map eF)), some (.val (nI a)), none, none, a6, a7]) := by
      subst hap
      by_cases c : pre.length = 4
      · rw [smN, if_pos c]
        generalize (smN pre.length L).map rotF = q1 at l1 l2 ⊢
        generalize (q1.map mirF).map eF = q3 at l2 ⊢
        generalize q1.map eF = q2 at l1 l2 ⊢
        have c' : eqF (.int (pre.length : Int)) (.int 4) = some true := by rw [eq_i]; simp; omega
        simp [nI, -eq_i] at l1 l2 ⊢
        simp [l1, l2, c', -eq_i]
      · rw [smN, if_neg c]
        generalize (smN pre.length L).map rotF = q1 at l1 ⊢
        generalize q1.map eF = q2 at l1 ⊢
        have c' : ¬ ((pre.length : Int) = 4) := by omega
        simp [nI] at l1 ⊢
        simp [l1, c']
    have e2 : ∀ (a b c : SM) (ρ : Regs), sSeq a (sSeq b c) ρ = (match sSeq a b ρ with | some (.nx ρ') => c ρ' | r => r) := fun a b c ρ => by
      simp only [u_sSeq]
      cases a ρ with
      | none => rfl
      | some o => cases o <;> rfl
    rw [mb_law_kind_1, e2]
    simp only [List.set_cons_succ, List.set_cons_zero]
    rw [e0]
    exact tl) [some (.val (eFs L)), some (.ownL []), some (.ownL (L.map eF)), none, none, none, none, none] ⟨_, _, _, _, rfl, rfl⟩
  simp only [List.length_range] at e1
  have e : fmsB L 8 = mvF (smN 1 L) :: (fmsB L 8).drop 1 := by rfl
  have hm := minG_Fs (mvF (smN 1 L)) ((fmsB L 8).drop 1)
  rw [← e] at hm
  have hls : listF [eFs L] = some (.ownL (L.map eF)) := by simp [eFs, listF]
  have hm' : minG [.list ((fmsB L 8).map eFs)] = some (.val (eFs (leastE (mvF (smN 1 L)) (fmsB L 8).tail))) := by simpa using hm
  simp [fm_law_kind, m_law_kind, rng0, e1, hls, hm']
theorem law_kind_is (L : List Fl) (hne : L ≠ []) (hl : L.length ≤ 400) : fm_law_kind [eFs L] = ok (.val (eFs (kindF L))) := by
  rw [law_kind_eq L hne hl, kindF]
  congr 3
  refine least_same fun z => ?_
  have r4 : ∀ M : List Fl, (((M.map rotF).map rotF).map rotF).map rotF = M := fun M => by
    simp only [List.map_map]
    rw [show (rotF ∘ rotF ∘ rotF ∘ rotF) = id from funext fun f => rot4 f, List.map_id]
  have rm : ∀ M : List Fl, (M.map mirF).map rotF = (((M.map rotF).map rotF).map rotF).map mirF := fun M => by
    simp only [List.map_map]
    congr 1
    exact funext fun f => rot_mir f
  have eA : mvF (rotN 1 L) :: (fmsA L 4).drop 1 = [mvF (L.map rotF), mvF ((L.map rotF).map mirF), mvF ((L.map rotF).map rotF), mvF (((L.map rotF).map rotF).map mirF), mvF (((L.map rotF).map rotF).map rotF), mvF ((((L.map rotF).map rotF).map rotF).map mirF), mvF ((((L.map rotF).map rotF).map rotF).map rotF), mvF (((((L.map rotF).map rotF).map rotF).map rotF).map mirF)] := rfl
  have eB : mvF (smN 1 L) :: (fmsB L 8).drop 1 = [mvF (L.map rotF), mvF ((L.map rotF).map rotF), mvF (((L.map rotF).map rotF).map rotF), mvF ((((L.map rotF).map rotF).map rotF).map rotF), mvF ((((((L.map rotF).map rotF).map rotF).map rotF).map rotF).map mirF), mvF (((((((L.map rotF).map rotF).map rotF).map rotF).map rotF).map mirF).map rotF), mvF ((((((((L.map rotF).map rotF).map rotF).map rotF).map rotF).map mirF).map rotF).map rotF), mvF (((((((((L.map rotF).map rotF).map rotF).map rotF).map rotF).map mirF).map rotF).map rotF).map rotF)] := rfl
  rw [eA, eB]
  simp only [rm, r4]
  simp only [List.mem_cons, List.not_mem_nil, or_false]
  grind
end TS
/-! counting kinds -/
namespace TS
open PySem PySem.Spec PyProof.Rows L2 En EnK
abbrev Ct := List Fl × Int
def eC (p : Ct) : D := .tuple [eFs p.1, .int p.2]
instance : En Ct where
  en := eC
  eqv a b := by
    obtain ⟨a1, a2⟩ := a; obtain ⟨b1, b2⟩ := b
    have h : PyData.eqv (eFs a1) (eFs b1) = decide (a1 = b1) := eqv a1 b1
    simp only [eC, PyData.eqv, PyData.eqvAll, h, Prod.mk.injEq]
    by_cases h1 : a1 = b1 <;> by_cases h2 : a2 = b2 <;> simp [h1, h2]
  lay a := by
    have h : (eFs a.1).canLay0 = true := lay a.1
    simp [eC, PyData.canLay0, PyData.canLayAll0, h]
  dep a := by
    have := depF a.1
    simp [eC, PyData.depth, PyData.depthAll, eFs]; omega
  imm a := by simp [eC]
  alk a b := by
    have h : W.alike (eFs a.1) (eFs b.1) = true := alk a.1 b.1
    simp [eC, W.alike, W.alikeAll, h]
instance : Tp Ct := ⟨fun _ => rfl⟩
theorem leC (a b : Ct) (h : leE a.1 b.1 = true) (hne : a.1 ≠ b.1) : leE a b = true := by
  rw [leE_lt] at h ⊢
  show (!W.dataLt (.tuple [eFs b.1, .int b.2]) (.tuple [eFs a.1, .int a.2])) = true
  have ha : W.alike (eFs b.1) (eFs a.1) = true := alk b.1 a.1
  have he : PyData.eqv (eFs b.1) (eFs a.1) = decide (b.1 = a.1) := eqv b.1 a.1
  rw [W.dataLt_tuple, W.dataLt_cons ha, he, if_neg (by simpa using fun e => hne e.symm)]
  exact h
def kvC (xs : List Ct) : List (D × D) := xs.map fun p => (eFs p.1, .int p.2)
def getC (xs : List Ct) (a : List Fl) : Int := ((xs.find? fun p => decide (p.1 = a)).map Prod.snd).getD 0
def putC (xs : List Ct) (a : List Fl) (v : Int) : List Ct := if (xs.find? fun p => decide (p.1 = a)).isSome = true then xs.map (fun p => if p.1 = a then (p.1, v) else p) else xs ++ [(a, v)]
abbrev kFs (a : List Fl) : NK := EnK.ks a
theorem kOf_Fs (a : List Fl) : kOf (eFs a) = some (kFs a) := kof a
theorem nkey_Fs (a : List Fl) : nkey (eFs a) = some (kFs a) := nkey_en a
theorem dFind_C (a : List Fl) (xs : List Ct) : dFind (kvC xs) (kFs a) = (xs.find? fun p => decide (p.1 = a)).map fun p => .int p.2 := by
  induction xs with
  | nil => rfl
  | cons x xs ih =>
    simp only [dFind, kvC, List.map_cons, List.find?_cons, nkey_Fs, Option.some.injEq] at ih ⊢
    by_cases h : x.1 = a
    · simp [h]
    · have : kFs x.1 ≠ kFs a := fun e => h (EnK.inj _ _ e)
      simp only [this, decide_false, h]
      exact ih
theorem dPut_C (a : List Fl) (v : Int) (xs : List Ct) : dPut (kvC xs) (kFs a) (eFs a) (.int v) = kvC (putC xs a v) := by
  rw [dPut, dFind_C, putC, Option.isSome_map]
  split
  · simp only [kvC, List.map_map]
    refine List.map_congr_left fun x _ => ?_
    simp only [Function.comp, nkey_Fs, Option.some.injEq]
    by_cases h : x.1 = a
    · simp [h]
    · have : kFs x.1 ≠ kFs a := fun e => h (EnK.inj _ _ e)
      simp [h, this]
  · simp [kvC]
theorem get_C (a : List Fl) (xs : List Ct) : getF (.dict (kvC xs)) (eFs a) (.int 0) = some (.int (getC xs a)) := by
  simp only [getF, kOf_Fs, dFind_C, getC]
  cases xs.find? fun p => decide (p.1 = a) <;> rfl
theorem putC_keys (xs : List Ct) (a : List Fl) (v : Int) : (putC xs a v).map Prod.fst = if a ∈ xs.map Prod.fst then xs.map Prod.fst else xs.map Prod.fst ++ [a] := by
  have e : (xs.find? fun p => decide (p.1 = a)).isSome = decide (a ∈ xs.map Prod.fst) := by
    rw [Bool.eq_iff_iff, List.find?_isSome, decide_eq_true_iff, List.mem_map]
    simp
  rw [putC, e]
  by_cases h : a ∈ xs.map Prod.fst
  · simp only [h, decide_true, if_true]
    rw [List.map_map]
    refine List.map_congr_left fun x _ => ?_
    simp only [Function.comp]
    split <;> rfl
  · simp [h]
theorem kvC_len (xs : List Ct) : (kvC xs).length = xs.length := by simp [kvC]
theorem putC_len (xs : List Ct) (a : List Fl) (v : Int) : (putC xs a v).length ≤ xs.length + 1 := by
  rw [putC]; split <;> simp
/-- the counting -/
def cnt (ls : List (List Fl)) : List Ct := ls.foldl (fun xs l => putC xs (kindF l) (getC xs (kindF l) + 1)) []
theorem cnt_snoc (ls : List (List Fl)) (l : List Fl) : cnt (ls ++ [l]) = putC (cnt ls) (kindF l) (getC (cnt ls) (kindF l) + 1) := by simp [cnt, List.foldl_append]
theorem cnt_len : ∀ ls : List (List Fl), (cnt ls).length ≤ ls.length := snoc_ind (by simp [cnt]) fun ls l ih => by
  rw [cnt_snoc]
  have := putC_len (cnt ls) (kindF l) (getC (cnt ls) (kindF l) + 1)
  simp; omega
theorem cnt_nd : ∀ ls : List (List Fl), ((cnt ls).map Prod.fst).Nodup := snoc_ind (by simp [cnt]) fun ls l ih => by
  rw [cnt_snoc, putC_keys]
  split
  · exact ih
  · rename_i h
    rw [List.nodup_append]
    exact ⟨ih, by simp, fun a ha b hb e => h (by simp at hb; rw [← hb, ← e]; exact ha)⟩
theorem cnt_key : ∀ (ls : List (List Fl)), ∀ k ∈ (cnt ls).map Prod.fst, ∃ l ∈ ls, k = kindF l := snoc_ind (by simp [cnt]) fun ls l ih k hk => by
  rw [cnt_snoc, putC_keys] at hk
  have old : k ∈ (cnt ls).map Prod.fst → ∃ m ∈ ls ++ [l], k = kindF m := fun h => by
    obtain ⟨m, hm, e⟩ := ih k h
    exact ⟨m, by simp [hm], e⟩
  split at hk
  · exact old hk
  · rcases List.mem_append.mp hk with h | h
    · exact old h
    · exact ⟨l, by simp, by simpa using h⟩
theorem mvF_len (L : List Fl) : (mvF L).length = L.length := by rw [mvF, sE_len]; simp
theorem fmsA_all (L : List Fl) : ∀ n, ∀ m ∈ fmsA L n, m.length = L.length := fun n => by
  induction n with
  | zero => simp [fmsA]
  | succ n ih =>
    intro m hm
    simp only [fmsA, List.mem_append, List.mem_singleton] at hm
    rcases hm with (h | rfl) | rfl
    · exact ih m h
    · rw [mvF_len, rotN_len]
    · rw [mvF_len, List.length_map, rotN_len]
theorem kindF_len (L : List Fl) : (kindF L).length = L.length := by
  have h := (leastE_is ((fmsA L 4).drop 1) (mvF (rotN 1 L))).1
  exact fmsA_all L 4 _ h
theorem getC_of {xs : List Ct} (h : (xs.map Prod.fst).Nodup) : ∀ p ∈ xs, getC xs p.1 = p.2 := by
  induction xs with
  | nil => simp
  | cons x xs ih =>
    intro p hp
    rw [List.map_cons, List.nodup_cons] at h
    rw [getC, List.find?_cons]
    rcases List.mem_cons.mp hp with rfl | hp
    · simp
    · have hne : x.1 ≠ p.1 := fun e => h.1 (e ▸ List.mem_map_of_mem hp)
      simp only [hne, decide_false]
      exact ih h.2 p hp
theorem sort_cnt {xs : List Ct} (h : (xs.map Prod.fst).Nodup) : sE xs = (sE (xs.map Prod.fst)).map fun k => (k, getC xs k) := by
  refine srt_uniq (sE_srt xs) ?_ ?_
  · have h1 : (sE (xs.map Prod.fst)).Nodup := (sE_perm _).nodup_iff.mpr h
    have h2 : Srt (sE (xs.map Prod.fst)) := sE_srt _
    rw [Srt, List.pairwise_map]
    exact (List.Pairwise.and h2 h1).imp fun ⟨a, b⟩ => leC _ _ a b
  · refine (sE_perm xs).trans ?_
    refine List.Perm.trans ?_ ((sE_perm (xs.map Prod.fst)).symm.map _)
    rw [List.map_map]
    have e : ∀ ys : List Ct, (∀ p ∈ ys, getC xs p.1 = p.2) → ys = ys.map ((fun k => (k, getC xs k)) ∘ Prod.fst) := fun ys => by
      induction ys with
      | nil => intro _; rfl
      | cons y ys ih =>
        intro h
        rw [List.map_cons, ← ih fun p hp => h p (by simp [hp])]
        simp [h y (by simp)]
    rw [← e xs (getC_of h)]
def pcOk (ls : List (List Fl)) : Prop := ls.length ≤ 400 ∧ ∀ l ∈ ls, l ≠ [] ∧ l.length ≤ 400
theorem kinds_of_eq {ls : List (List Fl)} (h : pcOk ls) : fm_kinds_of [.list (ls.map eFs)] = ok (.ownL ((sE (cnt ls)).map eC)) := by
  obtain ⟨ρ', e1, a2, a3, rfl⟩ := mFor_of (α := List Fl) eFs (t := .one 2) (m := mb_kinds_of_1) (fun pre ρ => ∃ a2 a3, ρ = [some (.val (.list (ls.map eFs))), some (.ownD (kvC (cnt pre))), a2, a3]) ls (by
    rintro pre l post ρ e ⟨a2, a3, rfl⟩
    have hl : l ∈ ls := by rw [← e]; simp
    have E1 := kind_of_eq l (h.2 l hl).1 (h.2 l hl).2
    have hpl : pre.length + 1 ≤ ls.length := by rw [← e]; simp
    have hc := cnt_len pre
    have hh := h.1
    have hk : (kvC (cnt pre)).length < 1000 := by rw [kvC_len]; omega
    have G := get_C (kindF l) (cnt pre)
    have P := dPut_C (kindF l) (getC (cnt pre) (kindF l) + 1) (cnt pre)
    have A : addF (.int (getC (cnt pre) (kindF l))) (.int 1) = some (.val (.int (getC (cnt pre) (kindF l) + 1))) := rfl
    refine ⟨_, [some (.val (.list (ls.map eFs))), some (.ownD (kvC (cnt (pre ++ [l])))), some (.val (eFs l)), some (.val (eFs (kindF l)))], rfl, ?_, _, _, rfl⟩
    simp [mb_kinds_of_1, E1, oGet, isDict, G, kOf_Fs, hk, A, P, cnt_snoc]) [some (.val (.list (ls.map eFs))), some (.ownD []), none, none] ⟨_, _, rfl⟩
  have hp : pairsD (kvC (cnt ls)) = (cnt ls).map eC := by simp only [pairsD, kvC, List.map_map]; rfl
  have hs : sortOk (pairsD (kvC (cnt ls))) = true := by
    rw [hp]; exact sortOk_mapH (cnt ls) (by have := cnt_len ls; have := h.1; omega) fun _ _ => rfl
  have hs2 : sortD (pairsD (kvC (cnt ls))) = (sE (cnt ls)).map eC := by rw [hp]; exact sort_map _
  simp [fm_kinds_of, m_kinds_of, e1, eSI, siF, hs, hs2]
theorem sorted_dC {ls : List (List Fl)} (h : pcOk ls) : sortedF [.dict (kvC (cnt ls))] = some (.ownL ((sE ((cnt ls).map Prod.fst)).map eFs)) := by
  have e : (kvC (cnt ls)).map (·.1) = ((cnt ls).map Prod.fst).map eFs := by simp only [kvC, List.map_map]; rfl
  have hs : sortOk (((cnt ls).map Prod.fst).map eFs) = true := sortOk_mapH ((cnt ls).map Prod.fst) (by have := cnt_len ls; have := h.1; simp; omega) fun k hk => by
    obtain ⟨l, hl, rfl⟩ := cnt_key ls k hk
    have := kindF_len l
    have h2 := (h.2 l hl).1
    cases q : kindF l with
    | nil => rw [q] at this; exact absurd (List.length_eq_zero_iff.mp this.symm) h2
    | cons a b => rfl
  have hs2 : sortD (((cnt ls).map Prod.fst).map eFs) = (sE ((cnt ls).map Prod.fst)).map eFs := sort_map _
  simp only [sortedF, seqF, e, hs, hs2, if_true]
end TS
/-! the plain law k06 -/
namespace TS
open PySem PySem.Spec PyProof.Rows L2 En EnK
@[simp] theorem u_eRev (m : OM) (ρ : Regs) : eRev m ρ = eb (m ρ) fun d => lift (revF d) := rfl
theorem kind_yes {l : List Fl} (h : PcOk l) : fm_kind [eFs l] = ok (.val (eFs (kindF l))) := by
  have hle := h.le
  have hne : l ≠ [] := fun e => by have := h.ne; rw [e] at this; simp at this
  obtain ⟨b, E1, E2⟩ := fm_is_piece_eq l (by omega)
  have hb : b = true := E2.mpr h
  subst hb
  have E3 := kind_of_eq l hne (by omega)
  simp [fm_kind, m_kind, E1, E3]
theorem kind_no {d : D} (h : fm_is_piece [d] = ok (.val (.bool false))) : fm_law_kind_word [d] = ok (.val (.str "pieces")) := by
  have E1 : fm_kind [d] = xc "BadPieces" := by simp [fm_kind, m_kind, h]
  simp [fm_law_kind_word, m_law_kind_word, E1, csY, Xnames]
theorem not_pc {l : List Fl} (hl : l.length ≤ 400) (h : ¬ PcOk l) : fm_is_piece [eFs l] = ok (.val (.bool false)) := by
  obtain ⟨b, E1, E2⟩ := fm_is_piece_eq l hl
  cases b with
  | false => exact E1
  | true => exact absurd (E2.mp rfl) h
theorem pcs_ok {fs : List Fl} {ps tn : List Br} (g : Gd fs ps) : pcOk (pcs fs tn) ∧ ∀ l ∈ pcs fs tn, PcOk l := by
  have hp : ∀ l ∈ pcs fs tn, PcOk l := fun l hl => PcOk.lot g (hang_in fs tn) hl
  have hle := g.le
  refine ⟨⟨?_, fun l hl => ?_⟩, hp⟩
  · have h1 : (pcs fs tn).length ≤ fs.length := by
      rw [pcs, lots, List.length_map]; exact heads_len _ _
    omega
  · have h1 := hp l hl
    have h2 := h1.le
    exact ⟨fun e => by have := h1.ne; rw [e] at this; simp at this, by omega⟩
theorem ne_CC (xs ys : List Ct) : neF (.list (xs.map eC)) (.list (ys.map eC)) = some (decide (xs ≠ ys)) := (ne_lst xs ys).trans (by congr)
theorem i_Cs (xs : List Ct) : immA (xs.map eC) = true := immAll xs
theorem sort_enc {xs : List Ct} (h : (xs.map Prod.fst).Nodup) : ((sE (xs.map Prod.fst)).map fun k => eC (k, getC xs k)) = (sE xs).map eC := by
  have := congrArg (List.map eC) (sort_cnt h)
  rw [List.map_map] at this
  exact this.symm
theorem add_Ft (xs ys : List Fl) (h : xs.length + ys.length ≤ 1000) : addF (eFs xs) (eFs ys) = some (.val (eFs (xs ++ ys))) := by
  have h1 : immA (xs.map eF) = true := immAll xs
  have h2 : immA (ys.map eF) = true := immAll ys
  simp only [eFs]
  rw [show addF (.tuple (xs.map eF)) (.tuple (ys.map eF)) = if (xs.map eF).length + (ys.map eF).length ≤ 1000000 ∧ immA (xs.map eF) = true ∧ immA (ys.map eF) = true then some (.val (.tuple (xs.map eF ++ ys.map eF))) else none from rfl, if_pos ⟨by simp; omega, h1, h2⟩, List.map_append]
theorem rev_Ft (xs : List Fl) (h : xs.length ≤ 1000) : revF (eFs xs) = some (.val (eFs xs.reverse)) := by
  simp only [eFs, revF, List.map_reverse]
  simp [h]
theorem slc_Ft (xs : List Fl) : sliceF (eFs xs) none (some 1) = some (.val (eFs (xs.take 1))) := by
  simp only [eFs]
  have h1 : immA (xs.map eF) = true := immAll xs
  rw [u_slT, if_pos h1, show (1 : Int) = ((1 : Nat) : Int) from rfl, cut_hi, List.map_take]
theorem lst_F (xs : List Fl) : listF [eFs xs] = some (.ownL (xs.map eF)) := by simp [eFs, listF]
theorem kinds_eq {fs : List Fl} {ps tn : List Br} (g : Gd fs ps) (t : Tn ps tn) : fm_kinds [eS fs ps, eBs tn] = ok (.ownL ((sE (cnt (pcs fs tn))).map eC)) := by
  have H := fm_pieces_of_eq ps tn g.le g.nd (by have := t.len g; omega)
  have K := kinds_of_eq (pcs_ok (tn := tn) g).1
  simp [fm_kinds, m_kinds, fm_look_torn_ok g t, H, K, i_Cs]
theorem end_kinds_eq {fs : List Fl} {ps : List Br} (g : Gd fs ps) : fm_end_kinds [eS fs ps] = ok (.ownL ((sE (cnt (pcs fs (endT fs ps [])))).map eC)) := by
  have t := (endT_spec g (Tn.nil ps)).1
  have H := fm_pieces_of_eq ps (endT fs ps []) g.le g.nd (by have := t.len g; omega)
  have E := fm_end_torn_eq g
  rw [show goneF (endH fs ps []) ps = endT fs ps [] from rfl] at E
  have K := kinds_of_eq (pcs_ok (tn := endT fs ps []) g).1
  simp [fm_end_kinds, m_end_kinds, fm_look_ok g, E, H, K, i_Cs]
theorem odd_none : fm_is_piece [.none] = ok (.val (.bool false)) := by kernel_rfl
theorem odd_nil : fm_is_piece [.tuple []] = ok (.val (.bool false)) := by kernel_rfl
theorem odd_list (xs : List D) : fm_is_piece [.list xs] = ok (.val (.bool false)) := by
  have h : isF "tuple" (.list xs) = some false := by kernel_rfl
  simp [fm_is_piece, m_is_piece, h]
theorem odd_80 : fm_is_piece [.tuple [.tuple [.int 8, .int 0]]] = ok (.val (.bool false)) := by kernel_rfl
theorem odd_0t : fm_is_piece [.tuple [.tuple [.int 0, .bool true]]] = ok (.val (.bool false)) := by kernel_rfl
theorem odd_77 {fs : List Fl} (hg : GF 12 fs) : ¬ PcOk (fs ++ [(7, 7)]) := fun h => by
  obtain ⟨a, ha⟩ : ∃ a, a ∈ fs := List.exists_mem_of_ne_nil fs (fun e => by have := hg.ne; rw [e] at this; simp at this)
  have r := h.jn (7, 7) (by simp) a (by simp [ha])
  have h5 := hg.bd a ha
  have key : ∀ b, Reach (adjS (fs ++ [(7, 7)])) (7, 7) b → b = (7, 7) := fun b r => by
    induction r with
    | refl => rfl
    | step _ hz ih =>
      subst ih
      rw [adjS_mem] at hz
      obtain ⟨h1, _, h3⟩ := hz
      rcases List.mem_append.mp h1 with h1 | h1
      · have := hg.bd _ h1
        simp only [sides, List.mem_cons, List.not_mem_nil, or_false] at h3
        rcases h3 with rfl | rfl | rfl | rfl <;> simp [B5] at this
      · simpa using h1
  rw [key a r] at h5
  simp [B5] at h5
theorem odd_dup {l : List Fl} (h : ¬ l.Nodup) : ¬ PcOk l := fun p => h ((rise_iff _).mp p.rs).2
abbrev rg (sc : D) (dr : List Int) (fs : List Fl) (ps tn : List Br) (a4 a5 a6 a8 a9 : Option RV) : Regs := [some (.val sc), some (.ownL (dr.map .int)), some (.val (eS fs ps)), some (.val (eBs tn)), a4, a5, a6, none, a8, a9]
theorem law_plain (ns : List Int) (hl : ns.length ≤ 63) : fm_law [.list (ns.map .int)] = some (.inl (.val (.bool true))) := by
  obtain ⟨dr, hd, E1⟩ := fm_law_row_eq ns 5 (by omega)
  obtain ⟨fs, ps, hg, hsub, E2⟩ := fm_law_sheet_eq ns 2 (by omega) 12 (by omega) (by omega)
  have g := hg.gd (by omega) hsub
  have hfl := hg.le
  have hfn := hg.ne
  obtain ⟨tn, n, f, E3⟩ := fm_law_torn_eq g ns 3 (by omega)
  have t := f.1
  obtain ⟨po, pk⟩ := pcs_ok (tn := tn) g
  generalize hsc : PyData.list (ns.map .int) = sc at E1 E2 E3 ⊢
  have M1 : ml_1 [some (.val sc), none, none, none, none, none, none, none, none, none] = some (.nx [some (.val sc), some (.ownL (dr.map .int)), none, none, none, none, none, none, none, none]) := by
    simp [ml_1, E1]
  have M2 : ml_2 [some (.val sc), some (.ownL (dr.map .int)), none, none, none, none, none, none, none, none] = some (.nx [some (.val sc), some (.ownL (dr.map .int)), some (.val (eS fs ps)), none, none, none, none, none, none, none]) := by
    have E2' : fm_law_sheet [sc, .int 2, .int 12] = ok (.val (eS fs ps)) := E2
    simp [ml_2, E2']
  have M3 : ml_3 [some (.val sc), some (.ownL (dr.map .int)), some (.val (eS fs ps)), none, none, none, none, none, none, none] = some (.nx (rg sc dr fs ps tn none none none none none)) := by
    simp [ml_3, E3]
  have M4 : ml_4 (rg sc dr fs ps tn none none none none none) = some (.nx (rg sc dr fs ps tn (some (.ownD [])) none none none none)) := by
    simp [ml_4]
  have M5 : ∃ a5 a6, ml_5 (rg sc dr fs ps tn (some (.ownD [])) none none none none) = some (.nx (rg sc dr fs ps tn (some (.ownD (kvC (cnt (pcs fs tn))))) a5 a6 none none)) := by
    have P := fm_pieces_eq g t
    obtain ⟨ρ', e1, a5, a6, rfl⟩ := mFor_of (α := List Fl) eFs (t := .one 5) (m := mb_law_5) (fun pre ρ => ∃ a5 a6, ρ = rg sc dr fs ps tn (some (.ownD (kvC (cnt pre)))) a5 a6 none none) (pcs fs tn) (by
      rintro pre l post ρ e ⟨a5, a6, rfl⟩
      have hm : l ∈ pcs fs tn := by rw [← e]; simp
      have F1 := law_kind_is l (po.2 l hm).1 (po.2 l hm).2
      have F2 := kind_yes (pk l hm)
      have hpl : pre.length + 1 ≤ (pcs fs tn).length := by rw [← e]; simp
      have hc := cnt_len pre
      have hh := po.1
      have hk : (kvC (cnt pre)).length < 1000 := by rw [kvC_len]; omega
      have G := get_C (kindF l) (cnt pre)
      have Q := dPut_C (kindF l) (getC (cnt pre) (kindF l) + 1) (cnt pre)
      have A : addF (.int (getC (cnt pre) (kindF l))) (.int 1) = some (.val (.int (getC (cnt pre) (kindF l) + 1))) := rfl
      refine ⟨_, rg sc dr fs ps tn (some (.ownD (kvC (cnt (pre ++ [l]))))) (some (.val (eFs l))) (some (.val (eFs (kindF l)))) none none, rfl, ?_, _, _, rfl⟩
      simp [mb_law_5, F1, F2, ne_Ft, oGet, isDict, G, kOf_Fs, hk, A, Q, cnt_snoc]) (rg sc dr fs ps tn (some (.ownD [])) none none none none) ⟨_, _, rfl⟩
    exact ⟨a5, a6, by simp [ml_5, P, e1]⟩
  obtain ⟨a5, a6, M5⟩ := M5
  have M6 : ml_6 (rg sc dr fs ps tn (some (.ownD (kvC (cnt (pcs fs tn))))) a5 a6 none none) = some (.nx (rg sc dr fs ps tn (some (.ownD (kvC (cnt (pcs fs tn))))) a5 a6 none none)) := by
    have K := kinds_eq g t
    have S := sorted_dC po
    have hc := cnt_len (pcs fs tn)
    have hh := po.1
    have lc := eLc_of (α := List Fl) eFs (fun _ => true) (fun k => eC (k, getC (cnt (pcs fs tn)) k)) (t := .one 7) (vs := [7]) (it := iA (oE (eL sortedF (lCons (oVar 4) (lNil))))) (c := bYes) (e := vTup (lCons (vVar 7) (lCons (vI (o2 idxF (oVar 4) (oVar 7))) (lNil)))) (ρ := rg sc dr fs ps tn (some (.ownD (kvC (cnt (pcs fs tn))))) a5 a6 none none) (sE ((cnt (pcs fs tn)).map Prod.fst)) (by simp [S]) (by simp) (by rw [sE_len]; simp; omega) (fun k hk => ⟨_, rfl, by simp, fun _ => by
      have hk' : k ∈ (cnt (pcs fs tn)).map Prod.fst := (sE_mem _ _).mp hk
      have hf : ((cnt (pcs fs tn)).find? fun p => decide (p.1 = k)).isSome = true := by
        rw [List.find?_isSome]
        obtain ⟨p, hp, e⟩ := List.mem_map.mp hk'
        exact ⟨p, hp, by simpa using e⟩
      obtain ⟨p, hp⟩ := Option.isSome_iff_exists.mp hf
      have hF := dFind_C k (cnt (pcs fs tn))
      have hG : getC (cnt (pcs fs tn)) k = p.2 := by rw [getC, hp]; rfl
      rw [hp] at hF
      have hI : idxF (.dict (kvC (cnt (pcs fs tn)))) (eFs k) = some (.int p.2) := by
        simp only [idxF, kOf_Fs, hF]; rfl
      simp [hI, hG, eC]⟩)
    simp only [flt_t] at lc
    rw [sort_enc (cnt_nd _)] at lc
    have ne := ne_CC (sE (cnt (pcs fs tn))) (sE (cnt (pcs fs tn)))
    simp [ml_6, K, lc, ne, i_Cs]
  have M7 : ml_7 (rg sc dr fs ps tn (some (.ownD (kvC (cnt (pcs fs tn))))) a5 a6 none none) = some (.nx (rg sc dr fs ps tn (some (.ownD (kvC (cnt (pcs fs tn))))) a5 a6 none none)) := by
    have tE := (endT_spec g (Tn.nil ps)).1
    have H1 := end_kinds_eq g
    have H2 := kinds_eq g tE
    have H3 := fm_end_eq g
    rw [show goneF (endH fs ps []) ps = endT fs ps [] from rfl] at H3
    have ne := ne_CC (sE (cnt (pcs fs (endT fs ps [])))) (sE (cnt (pcs fs (endT fs ps []))))
    simp [ml_7, H1, H2, H3, ne, i_Cs]
  generalize some (RV.ownD (kvC (cnt (pcs fs tn)))) = a4 at M5 M6 M7
  have M8 : ml_8 (rg sc dr fs ps tn a4 a5 a6 none none) = some (.nx (rg sc dr fs ps tn a4 a5 a6 (some (.val (eFs fs))) none)) := by
    simp [ml_8]
  have M9 : ml_9 (rg sc dr fs ps tn a4 a5 a6 (some (.val (eFs fs))) none) = some (.nx (rg sc dr fs ps tn a4 a5 a6 (some (.val (eFs fs))) (some (.ownL [.none, .tuple [], eFs (fs ++ [(7, 7)]), eFs (fs.reverse ++ fs.take 1), .list (fs.map eF), .tuple [.tuple [.int 8, .int 0]], .tuple [.tuple [.int 0, .bool true]]])))) := by
    have h1 : addF (eFs fs) (.tuple [.tuple [.int 7, .int 7]]) = some (.val (eFs (fs ++ [(7, 7)]))) := add_Ft fs [(7, 7)] (by simp; omega)
    have h2 := rev_Ft fs (by omega)
    have h3 := slc_Ft fs
    have h4 := add_Ft fs.reverse (fs.take 1) (by simp; omega)
    have h5 := lst_F fs
    simp [ml_9, h1, h2, h3, h4, h5]
  have M10 : ml_10 (rg sc dr fs ps tn a4 a5 a6 (some (.val (eFs fs))) (some (.ownL [.none, .tuple [], eFs (fs ++ [(7, 7)]), eFs (fs.reverse ++ fs.take 1), .list (fs.map eF), .tuple [.tuple [.int 8, .int 0]], .tuple [.tuple [.int 0, .bool true]]]))) = some (.nx (rg sc dr fs ps tn a4 a5 a6 (some (.val (eFs fs))) (some (.ownL [.none, .tuple [], eFs (fs ++ [(7, 7)]), eFs (fs.reverse ++ fs.take 1), .list (fs.map eF), .tuple [.tuple [.int 8, .int 0]], .tuple [.tuple [.int 0, .bool true]], eFs (fs ++ fs.take 1)])))) := by
    have h3 := slc_Ft fs
    have h4 := add_Ft fs (fs.take 1) (by simp; omega)
    simp [ml_10, h3, h4]
  have M11 : ∃ ρ, ml_11 (rg sc dr fs ps tn a4 a5 a6 (some (.val (eFs fs))) (some (.ownL [.none, .tuple [], eFs (fs ++ [(7, 7)]), eFs (fs.reverse ++ fs.take 1), .list (fs.map eF), .tuple [.tuple [.int 8, .int 0]], .tuple [.tuple [.int 0, .bool true]], eFs (fs ++ fs.take 1)]))) = some (.rt (.val (.bool true)) ρ) := by
    have di := at_draw hd (k := 0) (by omega) (by omega)
    obtain ⟨x, xs, e⟩ : ∃ x xs, fs = x :: xs := by
      cases fs with
      | nil => simp at hfn
      | cons x xs => exact ⟨x, xs, rfl⟩
    have q3 : ¬ PcOk (fs.reverse ++ fs.take 1) := odd_dup (by rw [e]; simp [List.nodup_append])
    have q7 : ¬ PcOk (fs ++ fs.take 1) := odd_dup (by rw [e]; simp)
    have all : ∀ d ∈ [PyData.none, .tuple [], eFs (fs ++ [(7, 7)]), eFs (fs.reverse ++ fs.take 1), .list (fs.map eF), .tuple [.tuple [.int 8, .int 0]], .tuple [.tuple [.int 0, .bool true]], eFs (fs ++ fs.take 1)], fm_law_kind_word [d] = ok (.val (.str "pieces")) ∧ imm d = imm d := by
      intro d hdm
      refine ⟨kind_no ?_, rfl⟩
      simp only [List.mem_cons, List.not_mem_nil, or_false] at hdm
      rcases hdm with rfl | rfl | rfl | rfl | rfl | rfl | rfl | rfl
      · exact odd_none
      · exact odd_nil
      · exact not_pc (by simp; omega) (odd_77 hg)
      · exact not_pc (by simp; omega) q3
      · exact odd_list _
      · exact odd_80
      · exact odd_0t
      · exact not_pc (by simp; omega) q7
    obtain ⟨d, hdm, eat⟩ := at_mod [PyData.none, .tuple [], eFs (fs ++ [(7, 7)]), eFs (fs.reverse ++ fs.take 1), .list (fs.map eF), .tuple [.tuple [.int 8, .int 0]], .tuple [.tuple [.int 0, .bool true]], eFs (fs ++ fs.take 1)] (dv dr 0) (by simp)
    have W := (all d hdm).1
    have eat' : atI [PyData.none, .tuple [], eFs (fs ++ [(7, 7)]), eFs (fs.reverse ++ fs.take 1), .list (fs.map eF), .tuple [.tuple [.int 8, .int 0]], .tuple [.tuple [.int 0, .bool true]], eFs (fs ++ fs.take 1)] (dv dr 0 % 8) = some d := eat
    generalize [PyData.none, .tuple [], eFs (fs ++ [(7, 7)]), eFs (fs.reverse ++ fs.take 1), .list (fs.map eF), .tuple [.tuple [.int 8, .int 0]], .tuple [.tuple [.int 0, .bool true]], eFs (fs ++ fs.take 1)] = L at eat' ⊢
    have es : eqF (.str "pieces") (.str "pieces") = some true := by kernel_rfl
    exact ⟨_, by simp [ml_11, di, eat', W, es]; rfl⟩
  obtain ⟨ρ, M11⟩ := M11
  simp only [fm_law, m_law, u_runD, List.map_cons, List.map_nil, List.length_cons, List.length_nil, List.replicate, List.cons_append, List.nil_append, Nat.reduceAdd, Nat.reduceSub, u_sSeq]
  simp only [M1, M2, M3, M4, M5, M6, M7, M8, M9, M10, M11]
  rfl
end TS
namespace TS
open PySem PySem.Spec PyProof.Rows L2
/-! ### the head -/
def d_is_within : He.DefD := ⟨("is_within", none), "is_within", "is_within", defArgs s_is_within, defBody s_is_within, defScope s_is_within, [], []⟩
def d_is_field : He.DefD := ⟨("is_field", none), "is_field", "is_field", defArgs s_is_field, defBody s_is_field, defScope s_is_field, [], []⟩
def d_is_border : He.DefD := ⟨("is_border", none), "is_border", "is_border", defArgs s_is_border, defBody s_is_border, defScope s_is_border, [], []⟩
def d_fields_at : He.DefD := ⟨("fields_at", none), "fields_at", "fields_at", defArgs s_fields_at, defBody s_fields_at, defScope s_fields_at, [], []⟩
def d_rises : He.DefD := ⟨("rises", none), "rises", "rises", defArgs s_rises, defBody s_rises, defScope s_rises, [], []⟩
def d_borders_of : He.DefD := ⟨("borders_of", none), "borders_of", "borders_of", defArgs s_borders_of, defBody s_borders_of, defScope s_borders_of, [], []⟩
def d_lot_from : He.DefD := ⟨("lot_from", none), "lot_from", "lot_from", defArgs s_lot_from, defBody s_lot_from, defScope s_lot_from, [], []⟩
def d_parts_of : He.DefD := ⟨("parts_of", none), "parts_of", "parts_of", defArgs s_parts_of, defBody s_parts_of, defScope s_parts_of, [], []⟩
def d_is_sheet : He.DefD := ⟨("is_sheet", none), "is_sheet", "is_sheet", defArgs s_is_sheet, defBody s_is_sheet, defScope s_is_sheet, [], []⟩
def d_look : He.DefD := ⟨("look", none), "look", "look", defArgs s_look, defBody s_look, defScope s_look, [], []⟩
def d_is_torn : He.DefD := ⟨("is_torn", none), "is_torn", "is_torn", defArgs s_is_torn, defBody s_is_torn, defScope s_is_torn, [], []⟩
def d_look_torn : He.DefD := ⟨("look_torn", none), "look_torn", "look_torn", defArgs s_look_torn, defBody s_look_torn, defScope s_look_torn, [], []⟩
def d_hanging_of : He.DefD := ⟨("hanging_of", none), "hanging_of", "hanging_of", defArgs s_hanging_of, defBody s_hanging_of, defScope s_hanging_of, [], []⟩
def d_around : He.DefD := ⟨("around", none), "around", "around", defArgs s_around, defBody s_around, defScope s_around, [], []⟩
def d_is_whole_corner : He.DefD := ⟨("is_whole_corner", none), "is_whole_corner", "is_whole_corner", defArgs s_is_whole_corner, defBody s_is_whole_corner, defScope s_is_whole_corner, [], []⟩
def d_corners_at : He.DefD := ⟨("corners_at", none), "corners_at", "corners_at", defArgs s_corners_at, defBody s_corners_at, defScope s_corners_at, [], []⟩
def d_next_to : He.DefD := ⟨("next_to", none), "next_to", "next_to", defArgs s_next_to, defBody s_next_to, defScope s_next_to, [], []⟩
def d_run_of : He.DefD := ⟨("run_of", none), "run_of", "run_of", defArgs s_run_of, defBody s_run_of, defScope s_run_of, [], []⟩
def d_tear_at : He.DefD := ⟨("tear_at", none), "tear_at", "tear_at", defArgs s_tear_at, defBody s_tear_at, defScope s_tear_at, [], []⟩
def d_tears_of : He.DefD := ⟨("tears_of", none), "tears_of", "tears_of", defArgs s_tears_of, defBody s_tears_of, defScope s_tears_of, [], []⟩
def d_pricks_of : He.DefD := ⟨("pricks_of", none), "pricks_of", "pricks_of", defArgs s_pricks_of, defBody s_pricks_of, defScope s_pricks_of, [], []⟩
def d_pieces_of : He.DefD := ⟨("pieces_of", none), "pieces_of", "pieces_of", defArgs s_pieces_of, defBody s_pieces_of, defScope s_pieces_of, [], []⟩
def d_pieces : He.DefD := ⟨("pieces", none), "pieces", "pieces", defArgs s_pieces, defBody s_pieces, defScope s_pieces, [], []⟩
def d_is_piece : He.DefD := ⟨("is_piece", none), "is_piece", "is_piece", defArgs s_is_piece, defBody s_is_piece, defScope s_is_piece, [], []⟩
def d_moved : He.DefD := ⟨("moved", none), "moved", "moved", defArgs s_moved, defBody s_moved, defScope s_moved, [], []⟩
def d_kind_of : He.DefD := ⟨("kind_of", none), "kind_of", "kind_of", defArgs s_kind_of, defBody s_kind_of, defScope s_kind_of, [], []⟩
def d_kind : He.DefD := ⟨("kind", none), "kind", "kind", defArgs s_kind, defBody s_kind, defScope s_kind, [], []⟩
def d_kinds_of : He.DefD := ⟨("kinds_of", none), "kinds_of", "kinds_of", defArgs s_kinds_of, defBody s_kinds_of, defScope s_kinds_of, [], []⟩
def d_kinds : He.DefD := ⟨("kinds", none), "kinds", "kinds", defArgs s_kinds, defBody s_kinds, defScope s_kinds, [], []⟩
def d_first_row : He.DefD := ⟨("first_row", none), "first_row", "first_row", defArgs s_first_row, defBody s_first_row, defScope s_first_row, [], []⟩
def d_end_torn : He.DefD := ⟨("end_torn", none), "end_torn", "end_torn", defArgs s_end_torn, defBody s_end_torn, defScope s_end_torn, [], []⟩
def d_end : He.DefD := ⟨("end", none), "end", "end", defArgs s_end, defBody s_end, defScope s_end, [], []⟩
def d_end_kinds : He.DefD := ⟨("end_kinds", none), "end_kinds", "end_kinds", defArgs s_end_kinds, defBody s_end_kinds, defScope s_end_kinds, [], []⟩
def d_law_cell : He.DefD := ⟨("_law_cell", none), "_law_cell", "_law_cell", defArgs s_law_cell, defBody s_law_cell, defScope s_law_cell, [], []⟩
def d_law_row : He.DefD := ⟨("_law_row", none), "_law_row", "_law_row", defArgs s_law_row, defBody s_law_row, defScope s_law_row, [], []⟩
def d_law_sides : He.DefD := ⟨("_law_sides", none), "_law_sides", "_law_sides", defArgs s_law_sides, defBody s_law_sides, defScope s_law_sides, [], []⟩
def d_law_joined : He.DefD := ⟨("_law_joined", none), "_law_joined", "_law_joined", defArgs s_law_joined, defBody s_law_joined, defScope s_law_joined, [], []⟩
def d_law_inner : He.DefD := ⟨("_law_inner", none), "_law_inner", "_law_inner", defArgs s_law_inner, defBody s_law_inner, defScope s_law_inner, [], []⟩
def d_law_fields : He.DefD := ⟨("_law_fields", none), "_law_fields", "_law_fields", defArgs s_law_fields, defBody s_law_fields, defScope s_law_fields, [], []⟩
def d_law_sheet : He.DefD := ⟨("_law_sheet", none), "_law_sheet", "_law_sheet", defArgs s_law_sheet, defBody s_law_sheet, defScope s_law_sheet, [], []⟩
def d_law_hang : He.DefD := ⟨("_law_hang", none), "_law_hang", "_law_hang", defArgs s_law_hang, defBody s_law_hang, defScope s_law_hang, [], []⟩
def d_law_full : He.DefD := ⟨("_law_full", none), "_law_full", "_law_full", defArgs s_law_full, defBody s_law_full, defScope s_law_full, [], []⟩
def d_law_tear : He.DefD := ⟨("_law_tear", none), "_law_tear", "_law_tear", defArgs s_law_tear, defBody s_law_tear, defScope s_law_tear, [], []⟩
def d_law_tears : He.DefD := ⟨("_law_tears", none), "_law_tears", "_law_tears", defArgs s_law_tears, defBody s_law_tears, defScope s_law_tears, [], []⟩
def d_law_torn : He.DefD := ⟨("_law_torn", none), "_law_torn", "_law_torn", defArgs s_law_torn, defBody s_law_torn, defScope s_law_torn, [], []⟩
def d_law_kind : He.DefD := ⟨("_law_kind", none), "_law_kind", "_law_kind", defArgs s_law_kind, defBody s_law_kind, defScope s_law_kind, [], []⟩
def d_law_kind_word : He.DefD := ⟨("_law_kind_word", none), "_law_kind_word", "_law_kind_word", defArgs s_law_kind_word, defBody s_law_kind_word, defScope s_law_kind_word, [], []⟩
def d_law : He.DefD := ⟨("law", none), "law", "law", defArgs s_law, defBody s_law, defScope s_law, [], []⟩
def fn : List He.DefD := [d_is_within, d_is_field, d_is_border, d_fields_at, d_rises, d_borders_of, d_lot_from, d_parts_of, d_is_sheet, d_look, d_is_torn, d_look_torn, d_hanging_of, d_around, d_is_whole_corner, d_corners_at, d_next_to, d_run_of, d_tear_at, d_tears_of, d_pricks_of, d_pieces_of, d_pieces, d_is_piece, d_moved, d_kind_of, d_kind, d_kinds_of, d_kinds, d_first_row, d_end_torn, d_end, d_end_kinds, d_law_cell, d_law_row, d_law_sides, d_law_joined, d_law_inner, d_law_fields, d_law_sheet, d_law_hang, d_law_full, d_law_tear, d_law_tears, d_law_torn, d_law_kind, d_law_kind_word, d_law]
def fa : List He.Fa := [.glo "is_within", .glo "is_field", .glo "is_border", .glo "fields_at", .glo "rises", .glo "borders_of", .glo "lot_from", .glo "parts_of", .glo "is_sheet", .glo "look", .glo "is_torn", .glo "look_torn", .glo "hanging_of", .glo "around", .glo "is_whole_corner", .glo "corners_at", .glo "next_to", .glo "run_of", .glo "tear_at", .glo "tears_of", .glo "pricks_of", .glo "pieces_of", .glo "pieces", .glo "is_piece", .glo "moved", .glo "kind_of", .glo "kind", .glo "kinds_of", .glo "kinds", .glo "first_row", .glo "end_torn", .glo "end", .glo "end_kinds", .glo "_law_cell", .glo "_law_row", .glo "_law_sides", .glo "_law_joined", .glo "_law_inner", .glo "_law_fields", .glo "_law_sheet", .glo "_law_hang", .glo "_law_full", .glo "_law_tear", .glo "_law_tears", .glo "_law_torn", .glo "_law_kind", .glo "_law_kind_word", .glo "law", .glo "TornError", .glo "BadSheet", .glo "BadTorn", .glo "BadPieces", .free "len", .free "sorted", .free "tuple", .free "list", .free "range", .free "enumerate", .free "zip", .free "min", .free "max", .free "isinstance", .free "int", .free "str", .free "bool", .free "ValueError", .int "MOST_SIDE" 7, .int "MOST_FIELDS" 16, .exc "BadSheet", .exc "BadTorn", .exc "BadPieces"]
def chk (K : Frg) : Bool := xkB K Xnames && (xeB K Xnames && (true))
def names0 : List PySem.Str := ["TornError", "BadSheet", "BadTorn", "BadPieces", "MOST_SIDE", "MOST_FIELDS", "is_within", "is_field", "is_border", "fields_at", "rises", "borders_of", "parts_of", "lot_from", "is_sheet", "look", "is_torn", "look_torn", "hanging_of", "around", "is_whole_corner", "corners_at", "next_to", "run_of", "tear_at", "tears_of", "pricks_of", "pieces_of", "pieces", "is_piece"]
def names1 : List PySem.Str := ["moved", "kind_of", "kind", "kinds_of", "kinds", "first_row", "end_torn", "end", "end_kinds", "_law_cell", "_law_row", "_law_sides", "_law_joined", "_law_inner", "_law_fields", "_law_sheet", "_law_hang", "_law_full", "_law_tear", "_law_tears", "_law_torn", "_law_kind", "_law_kind_word"]
def names : List PySem.Str := names0 ++ names1
abbrev R : PySem.W.OpenRow := PySem.W.OpenLaw.row PySem.Challenge.rw_tornsheets_k06_kinds_of_pieces
abbrev hk : PySem.W.Hook := hookT 5 fa fn chk
def ob (s : PySem.W.SharedT) : AlT := obsT 5 fa fn chk (HandSHeadRun.getT s)
theorem ob_eq (s : PySem.W.SharedT) : ob s = hk.obs s.abs := obsT_eq (HandSHeadRun.getT_eq s)
theorem run_head (w : World) : HandSHeadRun.RunEq R (PySem.W.view R.prog [59]) hk ob 8000 names w := by
  intro os
  kernel_rfl
theorem facts {P : Program} {w : World} {K : PySem.W.Frag} {h : Heap} {mg : Str → Option Value} {f : Addr} (X : K.In h) (G : h.Ns mainGlobals mg) (hfa : mg ("law" : Str) = some (.ref f)) (c : He.SaysD fa fn K) (ck : chk K = true) :
    ∃ fd : FuncData, (∀ (s : Shared) (v : Value), BindsTo s fd ⟨[v], []⟩ [("_law_script", v)]) ∧ ∀ base : Heap, K.In base → base.Ns mainGlobals mg → FnOk P w K mg base CXF 9 f fd ["_law_script"] (spLaw K) := by
  obtain ⟨fd_is_within, F_is_within⟩ := c.def_ 0 (d := d_is_within) rfl
  obtain ⟨fd_is_field, F_is_field⟩ := c.def_ 1 (d := d_is_field) rfl
  obtain ⟨fd_is_border, F_is_border⟩ := c.def_ 2 (d := d_is_border) rfl
  obtain ⟨fd_fields_at, F_fields_at⟩ := c.def_ 3 (d := d_fields_at) rfl
  obtain ⟨fd_rises, F_rises⟩ := c.def_ 4 (d := d_rises) rfl
  obtain ⟨fd_borders_of, F_borders_of⟩ := c.def_ 5 (d := d_borders_of) rfl
  obtain ⟨fd_lot_from, F_lot_from⟩ := c.def_ 6 (d := d_lot_from) rfl
  obtain ⟨fd_parts_of, F_parts_of⟩ := c.def_ 7 (d := d_parts_of) rfl
  obtain ⟨fd_is_sheet, F_is_sheet⟩ := c.def_ 8 (d := d_is_sheet) rfl
  obtain ⟨fd_look, F_look⟩ := c.def_ 9 (d := d_look) rfl
  obtain ⟨fd_is_torn, F_is_torn⟩ := c.def_ 10 (d := d_is_torn) rfl
  obtain ⟨fd_look_torn, F_look_torn⟩ := c.def_ 11 (d := d_look_torn) rfl
  obtain ⟨fd_hanging_of, F_hanging_of⟩ := c.def_ 12 (d := d_hanging_of) rfl
  obtain ⟨fd_around, F_around⟩ := c.def_ 13 (d := d_around) rfl
  obtain ⟨fd_is_whole_corner, F_is_whole_corner⟩ := c.def_ 14 (d := d_is_whole_corner) rfl
  obtain ⟨fd_corners_at, F_corners_at⟩ := c.def_ 15 (d := d_corners_at) rfl
  obtain ⟨fd_next_to, F_next_to⟩ := c.def_ 16 (d := d_next_to) rfl
  obtain ⟨fd_run_of, F_run_of⟩ := c.def_ 17 (d := d_run_of) rfl
  obtain ⟨fd_tear_at, F_tear_at⟩ := c.def_ 18 (d := d_tear_at) rfl
  obtain ⟨fd_tears_of, F_tears_of⟩ := c.def_ 19 (d := d_tears_of) rfl
  obtain ⟨fd_pricks_of, F_pricks_of⟩ := c.def_ 20 (d := d_pricks_of) rfl
  obtain ⟨fd_pieces_of, F_pieces_of⟩ := c.def_ 21 (d := d_pieces_of) rfl
  obtain ⟨fd_pieces, F_pieces⟩ := c.def_ 22 (d := d_pieces) rfl
  obtain ⟨fd_is_piece, F_is_piece⟩ := c.def_ 23 (d := d_is_piece) rfl
  obtain ⟨fd_moved, F_moved⟩ := c.def_ 24 (d := d_moved) rfl
  obtain ⟨fd_kind_of, F_kind_of⟩ := c.def_ 25 (d := d_kind_of) rfl
  obtain ⟨fd_kind, F_kind⟩ := c.def_ 26 (d := d_kind) rfl
  obtain ⟨fd_kinds_of, F_kinds_of⟩ := c.def_ 27 (d := d_kinds_of) rfl
  obtain ⟨fd_kinds, F_kinds⟩ := c.def_ 28 (d := d_kinds) rfl
  obtain ⟨fd_first_row, F_first_row⟩ := c.def_ 29 (d := d_first_row) rfl
  obtain ⟨fd_end_torn, F_end_torn⟩ := c.def_ 30 (d := d_end_torn) rfl
  obtain ⟨fd_end, F_end⟩ := c.def_ 31 (d := d_end) rfl
  obtain ⟨fd_end_kinds, F_end_kinds⟩ := c.def_ 32 (d := d_end_kinds) rfl
  obtain ⟨fd_law_cell, F_law_cell⟩ := c.def_ 33 (d := d_law_cell) rfl
  obtain ⟨fd_law_row, F_law_row⟩ := c.def_ 34 (d := d_law_row) rfl
  obtain ⟨fd_law_sides, F_law_sides⟩ := c.def_ 35 (d := d_law_sides) rfl
  obtain ⟨fd_law_joined, F_law_joined⟩ := c.def_ 36 (d := d_law_joined) rfl
  obtain ⟨fd_law_inner, F_law_inner⟩ := c.def_ 37 (d := d_law_inner) rfl
  obtain ⟨fd_law_fields, F_law_fields⟩ := c.def_ 38 (d := d_law_fields) rfl
  obtain ⟨fd_law_sheet, F_law_sheet⟩ := c.def_ 39 (d := d_law_sheet) rfl
  obtain ⟨fd_law_hang, F_law_hang⟩ := c.def_ 40 (d := d_law_hang) rfl
  obtain ⟨fd_law_full, F_law_full⟩ := c.def_ 41 (d := d_law_full) rfl
  obtain ⟨fd_law_tear, F_law_tear⟩ := c.def_ 42 (d := d_law_tear) rfl
  obtain ⟨fd_law_tears, F_law_tears⟩ := c.def_ 43 (d := d_law_tears) rfl
  obtain ⟨fd_law_torn, F_law_torn⟩ := c.def_ 44 (d := d_law_torn) rfl
  obtain ⟨fd_law_kind, F_law_kind⟩ := c.def_ 45 (d := d_law_kind) rfl
  obtain ⟨fd_law_kind_word, F_law_kind_word⟩ := c.def_ 46 (d := d_law_kind_word) rfl
  obtain ⟨fd_law, F_law⟩ := c.def_ 47 (d := d_law) rfl
  have e := hfa.symm.trans (He.glo_ok X G (c.fact 47 (f := .glo "law") rfl))
  cases e
  unfold chk at ck
  obtain ⟨ck_xk, ck⟩ := Bool.and_eq_true_iff.mp ck
  obtain ⟨ck_xe, ck⟩ := Bool.and_eq_true_iff.mp ck
  have M : Md K mg := {
    f_len := He.free_ok X G (c.fact 52 (f := .free "len") rfl)
    f_sorted := He.free_ok X G (c.fact 53 (f := .free "sorted") rfl)
    f_tuple := He.free_ok X G (c.fact 54 (f := .free "tuple") rfl)
    f_list := He.free_ok X G (c.fact 55 (f := .free "list") rfl)
    f_range := He.free_ok X G (c.fact 56 (f := .free "range") rfl)
    f_enumerate := He.free_ok X G (c.fact 57 (f := .free "enumerate") rfl)
    f_zip := He.free_ok X G (c.fact 58 (f := .free "zip") rfl)
    f_min := He.free_ok X G (c.fact 59 (f := .free "min") rfl)
    f_max := He.free_ok X G (c.fact 60 (f := .free "max") rfl)
    f_isinstance := He.free_ok X G (c.fact 61 (f := .free "isinstance") rfl)
    f_int := He.free_ok X G (c.fact 62 (f := .free "int") rfl)
    f_str := He.free_ok X G (c.fact 63 (f := .free "str") rfl)
    f_bool := He.free_ok X G (c.fact 64 (f := .free "bool") rfl)
    f_ValueError := He.free_ok X G (c.fact 65 (f := .free "ValueError") rfl)
    c_MOST_SIDE := He.int_ok X G (c.fact 66 (f := .int "MOST_SIDE" 7) rfl)
    c_MOST_FIELDS := He.int_ok X G (c.fact 67 (f := .int "MOST_FIELDS" 16) rfl)
    x_BadSheet := ⟨⟨_, He.glo_ok X G (c.fact 49 (f := .glo "BadSheet") rfl), He.exc_ok (c.fact 68 (f := .exc "BadSheet") rfl)⟩⟩
    x_BadTorn := ⟨⟨_, He.glo_ok X G (c.fact 50 (f := .glo "BadTorn") rfl), He.exc_ok (c.fact 69 (f := .exc "BadTorn") rfl)⟩⟩
    x_BadPieces := ⟨⟨_, He.glo_ok X G (c.fact 51 (f := .glo "BadPieces") rfl), He.exc_ok (c.fact 70 (f := .exc "BadPieces") rfl)⟩⟩
  }
  have b := FunD.bindsA (ps := ["_law_script"]) F_law fun _ _ _ _ _ _ us hl => match us, hl with | [_], _ => rfl
  refine ⟨fd_law, fun s v => b s [v] rfl, fun base _ _ => ?_⟩
  have hglo : ∀ x ∈ Xnames, mg (Str.ofString x) = some (.ref (He.ga K (Str.ofString x))) := fun x hx => by
    rcases List.mem_cons.mp hx with rfl | hx
    · exact He.glo_ok X G (c.fact 49 (f := .glo "BadSheet") rfl)
    rcases List.mem_cons.mp hx with rfl | hx
    · exact He.glo_ok X G (c.fact 50 (f := .glo "BadTorn") rfl)
    rcases List.mem_cons.mp hx with rfl | hx
    · exact He.glo_ok X G (c.fact 51 (f := .glo "BadPieces") rfl)
    cases hx
  have XK : Xk K mg Xnames := ⟨He.glo_ok X G (c.fact 48 (f := .glo "TornError") rfl), hglo, ck_xk⟩
  have XE : Xe K mg Xnames := ⟨hglo, ck_xe⟩
  have h_is_within := ok_is_within (P := P) (w := w) (base := base) M F_is_within (He.glo_ok X G (c.fact 0 (f := .glo "is_within") rfl)) 
  have h_is_field := ok_is_field (P := P) (w := w) (base := base) M F_is_field (He.glo_ok X G (c.fact 1 (f := .glo "is_field") rfl)) h_is_within
  have h_is_border := ok_is_border (P := P) (w := w) (base := base) M F_is_border (He.glo_ok X G (c.fact 2 (f := .glo "is_border") rfl)) h_is_field
  have h_fields_at := ok_fields_at (P := P) (w := w) (base := base) M F_fields_at (He.glo_ok X G (c.fact 3 (f := .glo "fields_at") rfl)) 
  have h_rises := ok_rises (P := P) (w := w) (base := base) M F_rises (He.glo_ok X G (c.fact 4 (f := .glo "rises") rfl)) 
  have h_borders_of := ok_borders_of (P := P) (w := w) (base := base) M F_borders_of (He.glo_ok X G (c.fact 5 (f := .glo "borders_of") rfl)) h_fields_at
  have h_lot_from := ok_lot_from (P := P) (w := w) (base := base) M F_lot_from (He.glo_ok X G (c.fact 6 (f := .glo "lot_from") rfl)) 
  have h_parts_of := ok_parts_of (P := P) (w := w) (base := base) M F_parts_of (He.glo_ok X G (c.fact 7 (f := .glo "parts_of") rfl)) h_lot_from h_fields_at
  have h_is_sheet := ok_is_sheet (P := P) (w := w) (base := base) M F_is_sheet (He.glo_ok X G (c.fact 8 (f := .glo "is_sheet") rfl)) h_rises h_is_field h_is_border h_borders_of h_parts_of
  have h_look := ok_look (P := P) (w := w) (base := base) M F_look (He.glo_ok X G (c.fact 9 (f := .glo "look") rfl)) h_is_sheet
  have h_is_torn := ok_is_torn (P := P) (w := w) (base := base) M F_is_torn (He.glo_ok X G (c.fact 10 (f := .glo "is_torn") rfl)) h_rises h_is_border
  have h_look_torn := ok_look_torn (P := P) (w := w) (base := base) M F_look_torn (He.glo_ok X G (c.fact 11 (f := .glo "look_torn") rfl)) h_look h_is_torn
  have h_hanging_of := ok_hanging_of (P := P) (w := w) (base := base) M F_hanging_of (He.glo_ok X G (c.fact 12 (f := .glo "hanging_of") rfl)) h_borders_of
  have h_around := ok_around (P := P) (w := w) (base := base) M F_around (He.glo_ok X G (c.fact 13 (f := .glo "around") rfl)) 
  have h_is_whole_corner := ok_is_whole_corner (P := P) (w := w) (base := base) M F_is_whole_corner (He.glo_ok X G (c.fact 14 (f := .glo "is_whole_corner") rfl)) h_around
  have h_corners_at := ok_corners_at (P := P) (w := w) (base := base) M F_corners_at (He.glo_ok X G (c.fact 15 (f := .glo "corners_at") rfl)) 
  have h_next_to := ok_next_to (P := P) (w := w) (base := base) M F_next_to (He.glo_ok X G (c.fact 16 (f := .glo "next_to") rfl)) 
  have h_run_of := ok_run_of (P := P) (w := w) (base := base) M F_run_of (He.glo_ok X G (c.fact 17 (f := .glo "run_of") rfl)) h_is_whole_corner h_corners_at h_next_to
  have h_tear_at := ok_tear_at (P := P) (w := w) (base := base) M F_tear_at (He.glo_ok X G (c.fact 18 (f := .glo "tear_at") rfl)) h_run_of
  have h_tears_of := ok_tears_of (P := P) (w := w) (base := base) M F_tears_of (He.glo_ok X G (c.fact 19 (f := .glo "tears_of") rfl)) h_tear_at
  have h_pricks_of := ok_pricks_of (P := P) (w := w) (base := base) M F_pricks_of (He.glo_ok X G (c.fact 20 (f := .glo "pricks_of") rfl)) 
  have h_pieces_of := ok_pieces_of (P := P) (w := w) (base := base) M F_pieces_of (He.glo_ok X G (c.fact 21 (f := .glo "pieces_of") rfl)) h_parts_of h_hanging_of
  have h_pieces := ok_pieces (P := P) (w := w) (base := base) M F_pieces (He.glo_ok X G (c.fact 22 (f := .glo "pieces") rfl)) h_look_torn h_pieces_of
  have h_is_piece := ok_is_piece (P := P) (w := w) (base := base) M F_is_piece (He.glo_ok X G (c.fact 23 (f := .glo "is_piece") rfl)) h_is_field h_parts_of h_borders_of h_rises
  have h_moved := ok_moved (P := P) (w := w) (base := base) M F_moved (He.glo_ok X G (c.fact 24 (f := .glo "moved") rfl)) 
  have h_kind_of := ok_kind_of (P := P) (w := w) (base := base) M F_kind_of (He.glo_ok X G (c.fact 25 (f := .glo "kind_of") rfl)) h_moved
  have h_kind := ok_kind (P := P) (w := w) (base := base) M F_kind (He.glo_ok X G (c.fact 26 (f := .glo "kind") rfl)) h_is_piece h_kind_of
  have h_kinds_of := ok_kinds_of (P := P) (w := w) (base := base) M F_kinds_of (He.glo_ok X G (c.fact 27 (f := .glo "kinds_of") rfl)) h_kind_of
  have h_kinds := ok_kinds (P := P) (w := w) (base := base) M F_kinds (He.glo_ok X G (c.fact 28 (f := .glo "kinds") rfl)) h_look_torn h_kinds_of h_pieces_of
  have h_first_row := ok_first_row (P := P) (w := w) (base := base) M F_first_row (He.glo_ok X G (c.fact 29 (f := .glo "first_row") rfl)) h_hanging_of h_pricks_of h_tears_of
  have h_end_torn := ok_end_torn (P := P) (w := w) (base := base) M F_end_torn (He.glo_ok X G (c.fact 30 (f := .glo "end_torn") rfl)) h_first_row
  have h_end := ok_end (P := P) (w := w) (base := base) M F_end (He.glo_ok X G (c.fact 31 (f := .glo "end") rfl)) h_look h_end_torn
  have h_end_kinds := ok_end_kinds (P := P) (w := w) (base := base) M F_end_kinds (He.glo_ok X G (c.fact 32 (f := .glo "end_kinds") rfl)) h_look h_kinds_of h_pieces_of h_end_torn
  have h_law_cell := ok_law_cell (P := P) (w := w) (base := base) M F_law_cell (He.glo_ok X G (c.fact 33 (f := .glo "_law_cell") rfl)) 
  have h_law_row := ok_law_row (P := P) (w := w) (base := base) M F_law_row (He.glo_ok X G (c.fact 34 (f := .glo "_law_row") rfl)) h_law_cell
  have h_law_sides := ok_law_sides (P := P) (w := w) (base := base) M F_law_sides (He.glo_ok X G (c.fact 35 (f := .glo "_law_sides") rfl)) 
  have h_law_joined := ok_law_joined (P := P) (w := w) (base := base) M F_law_joined (He.glo_ok X G (c.fact 36 (f := .glo "_law_joined") rfl)) h_law_sides
  have h_law_inner := ok_law_inner (P := P) (w := w) (base := base) M F_law_inner (He.glo_ok X G (c.fact 37 (f := .glo "_law_inner") rfl)) 
  have h_law_fields := ok_law_fields (P := P) (w := w) (base := base) M F_law_fields (He.glo_ok X G (c.fact 38 (f := .glo "_law_fields") rfl)) h_law_joined h_law_sides
  have h_law_sheet := ok_law_sheet (P := P) (w := w) (base := base) M F_law_sheet (He.glo_ok X G (c.fact 39 (f := .glo "_law_sheet") rfl)) h_law_row h_law_fields h_law_inner
  have h_law_hang := ok_law_hang (P := P) (w := w) (base := base) M F_law_hang (He.glo_ok X G (c.fact 40 (f := .glo "_law_hang") rfl)) h_law_inner
  have h_law_full := ok_law_full (P := P) (w := w) (base := base) M F_law_full (He.glo_ok X G (c.fact 41 (f := .glo "_law_full") rfl)) 
  have h_law_tear := ok_law_tear (P := P) (w := w) (base := base) M F_law_tear (He.glo_ok X G (c.fact 42 (f := .glo "_law_tear") rfl)) h_law_full
  have h_law_tears := ok_law_tears (P := P) (w := w) (base := base) M F_law_tears (He.glo_ok X G (c.fact 43 (f := .glo "_law_tears") rfl)) h_law_hang h_law_tear
  have h_law_torn := ok_law_torn (P := P) (w := w) (base := base) M F_law_torn (He.glo_ok X G (c.fact 44 (f := .glo "_law_torn") rfl)) h_law_row h_law_tears
  have h_law_kind := ok_law_kind (P := P) (w := w) (base := base) M F_law_kind (He.glo_ok X G (c.fact 45 (f := .glo "_law_kind") rfl)) 
  have h_law_kind_word := ok_law_kind_word (P := P) (w := w) (base := base) M F_law_kind_word (He.glo_ok X G (c.fact 46 (f := .glo "_law_kind_word") rfl)) h_kind XK XE
  exact law_imp (ok_law (P := P) (w := w) (base := base) M F_law h_law_row h_law_sheet h_law_torn h_pieces h_law_kind h_kind h_kinds h_end_kinds h_end h_law_kind_word) fun ns hl => law_plain ns hl
end TS
open PySem PySem.W PySem.Calls PyProof.Rows
theorem PySem.Challenge.cw_tornsheets_k06_kinds_of_pieces_holds : PySem.Challenge.rw_tornsheets_k06_kinds_of_pieces.Holds := by
  w_on; o_law
  refine HandSHeadRun.head_any (r := OpenLaw.row PySem.Challenge.rw_tornsheets_k06_kinds_of_pieces) (q := view (OpenLaw.row PySem.Challenge.rw_tornsheets_k06_kinds_of_pieces).prog [59]) (H := TS.hk) (ob := TS.ob) (M := 8000) (loose := TS.names) (d := HandSHeadRun.topDef (OpenLaw.row PySem.Challenge.rw_tornsheets_k06_kinds_of_pieces).prog 59) (kwd := []) TS.ob_eq
    (by kernel_rfl) (fun s => by kernel_rfl) TS.run_head (by kernel_rfl) (by kernel_rfl) (by kernel_rfl) (by rfl) (by first | assumption | decide +kernel) (by decide +kernel) ⟨rfl, rfl, rfl, rfl, rfl, by decide +kernel⟩ ?hw ?hc
  case hw => w_witness2
  case hc =>
    refine L2.walk_ofE (l := PySem.Challenge.rw_tornsheets_k06_kinds_of_pieces) (n := 63) (k := 9) (x := "_law_script") (CX := TS.CXF) rfl (by decide) (by kernel_rfl) ⟨rfl, by decide, by decide⟩ ?F (fun _ _ _ _ z => z)
    intro w mg fa h Y G hmg0
    obtain ⟨K, KX, c, ck⟩ := Y
    have hmg : mg ("law" : PySem.Str) = some (.ref fa) := by
      have e : (HandSHeadRun.topDef (OpenLaw.row PySem.Challenge.rw_tornsheets_k06_kinds_of_pieces).prog 59).name = ("law" : PySem.Str) := by kernel_rfl
      rw [← e]; exact hmg0
    obtain ⟨fd, hb, hF⟩ := TS.facts (P := (PySem.Challenge.rw_tornsheets_k06_kinds_of_pieces).prog) (w := w) KX G hmg c ck
    exact ⟨K, fd, TS.spLaw K, KX, hb, fun H a ns hl _ hS => ⟨a, ns, rfl, hl, hS, fun _ => rfl⟩, hF⟩
