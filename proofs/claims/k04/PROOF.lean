import PyProof.Rows.All
import HandS.ForMost
import HandS.ForExc
import HandS.Walk
import HandS.Zip
import HandS.IsInst
import HandS.Wide
import HandS.Flow
import HandS.Style
import HandS.DeepEq
import HandS.Deep
import PyProof.Rows.SeqCalls
import PyProof.Rows.SeqGen
import KE.KSortedM
import HandS.TryOnly
import HandS.Small
import HandS.Lambda
import HandS.ExcIs
import HandS.HotCalls
import HandS.RevTup
import HandS.Defaults
import HandS.CallSlots
import PyProof.P3In
import KE.GoesMore
import HandS.SetFor
import HandS.More
import KE.KEqDict
import KE.SortKeyHeap
import KE.KLam
import HandS.EndTab
import KE.DatumOrd
import HandS.TupAny
import HandS.DictComp
import KE.KDictSum
import HandS.Conv
import HandS.TupMul
import PySem.Challenge.RW_racerows_k04_water_refused
set_option Elab.async false
set_option linter.all false
set_option maxRecDepth 100000
/-! The pure layer: values without a heap (PyData), a state of slots, and what a reading of the hand layer has to do with it. -/
namespace Pm
open PySem L2

abbrev D := PyData
inductive Slot where
  | un | fz (d : D) | ol (xs : List D) | od (kvs : List (D × D)) | pt (n : Nat) | bw (xs : List D)
def Slot.owned : Slot → Bool
  | .ol _ => true
  | .od _ => true
  | _ => false
structure S (T : Type) where
  env : List Slot
  t : T
inductive Res (T α : Type) where
  | ok (a : α) (s : S T)
  | exc (c : Nat) (s : S T)
  | stuck
abbrev M (T α : Type) := S T → Res T α
def mBind {T α β : Type} (m : M T α) (f : α → M T β) : M T β := fun s => match m s with
  | .ok a s' => f a s'
  | .exc c s' => .exc c s'
  | .stuck => .stuck
def mRet {T α : Type} (a : α) : M T α := fun s => .ok a s
def mLift {T α : Type} (o : Option α) : M T α := fun s => match o with
  | some a => .ok a s
  | none => .stuck

/-! ### what a value of the abstract heap stands for -/
def kD : Key → D
  | .inl i => .int i
  | .inr x => .str x
/-- a frozen tuple; one of the module only where a text stands first in it: so a tuple of ints is surely tracked -/
def SqF (K : PySem.W.Frag) (F : Hp) (a : Addr) (xs : List V) : Prop := (F a = some (.tup xs) ∨ False) ∨ ((∃ z r, xs = V.str z :: r) ∧ ∃ (o : Obj) (its : Array Value) (n : Nat), K.lookup a = some o ∧ o.cls = .type "tuple" ∧ o.data = .seq its n ∧ its.size ≤ sizeLine ∧ Vals xs its.toList)
mutual
inductive Rep (K : PySem.W.Frag) (F : Hp) : V → D → Prop
  | non : Rep K F .non .none
  | bl (b : Bool) : Rep K F (.bl b) (.bool b)
  | int (i : Int) : Rep K F (.int i) (.int i)
  | str (x : Str) : Rep K F (.str x) (.str x)
  | lst {a : Addr} {xs : List V} {ds : List D} : F a = some (.lst xs) → RepL K F xs ds → Rep K F (.ref a) (.list ds)
  | tup {a : Addr} {xs : List V} {ds : List D} : SqF K F a xs → RepL K F xs ds → Rep K F (.ref a) (.tuple ds)
  | dic {a : Addr} {ks : List (Key × V)} {ds : List (D × D)} : F a = some (.dK ks) → RepKV K F ks ds → Rep K F (.ref a) (.dict ds)
inductive RepL (K : PySem.W.Frag) (F : Hp) : List V → List D → Prop
  | nil : RepL K F [] []
  | cons {v : V} {vs : List V} {d : D} {ds : List D} : Rep K F v d → RepL K F vs ds → RepL K F (v :: vs) (d :: ds)
inductive RepKV (K : PySem.W.Frag) (F : Hp) : List (Key × V) → List (D × D) → Prop
  | nil : RepKV K F [] []
  | cons {k : Key} {v : V} {ks : List (Key × V)} {d : D} {ds : List (D × D)} : Rep K F v d → RepKV K F ks ds → RepKV K F ((k, v) :: ks) ((kD k, d) :: ds)
end
theorem sqT_mono {K : PySem.W.Frag} {F F' : Hp} {a : Addr} {xs : List V} (e : Same F F') (h : SqF K F a xs) : SqF K F' a xs := by
  rcases h with (h | h) | h
  · exact .inl (.inl (e _ _ h))
  · exact h.elim
  · exact .inr h
section
variable {K : PySem.W.Frag} {F F' : Hp}
mutual
theorem Rep.mono (e : Same F F') : ∀ {v : V} {d : D}, Rep K F v d → Rep K F' v d
  | _, _, .non => .non
  | _, _, .bl b => .bl b
  | _, _, .int i => .int i
  | _, _, .str x => .str x
  | _, _, .lst h r => .lst (e _ _ h) (RepL.mono e r)
  | _, _, .tup h r => .tup (sqT_mono e h) (RepL.mono e r)
  | _, _, .dic h r => .dic (e _ _ h) (RepKV.mono e r)
theorem RepL.mono (e : Same F F') : ∀ {v : List V} {d : List D}, RepL K F v d → RepL K F' v d
  | _, _, .nil => .nil
  | _, _, .cons h r => .cons (Rep.mono e h) (RepL.mono e r)
theorem RepKV.mono (e : Same F F') : ∀ {v : List (Key × V)} {d : List (D × D)}, RepKV K F v d → RepKV K F' v d
  | _, _, .nil => .nil
  | _, _, .cons h r => .cons (Rep.mono e h) (RepKV.mono e r)
end
theorem RepL.length : ∀ {v : List V} {d : List D}, RepL K F v d → v.length = d.length
  | _, _, .nil => rfl
  | _, _, .cons _ r => congrArg Nat.succ r.length
theorem RepL.get : ∀ {v : List V} {d : List D} {i : Nat} {x : D}, RepL K F v d → d[i]? = some x → ∃ y, v[i]? = some y ∧ Rep K F y x
  | _, _, _, _, .nil, h => by simp at h
  | _, _, 0, _, .cons h _, e => by simp at e; subst e; exact ⟨_, rfl, h⟩
  | _, _, i + 1, x, .cons _ r, e => by
    obtain ⟨y, h1, h2⟩ := RepL.get (i := i) (x := x) r (by simpa using e)
    exact ⟨y, by simpa using h1, h2⟩
theorem RepL.get' : ∀ {v : List V} {d : List D} {i : Nat} {y : V}, RepL K F v d → v[i]? = some y → ∃ x, d[i]? = some x ∧ Rep K F y x
  | _, _, _, _, .nil, h => by simp at h
  | _, _, 0, _, .cons h _, e => by simp at e; subst e; exact ⟨_, rfl, h⟩
  | _, _, i + 1, x, .cons _ r, e => by
    obtain ⟨y, h1, h2⟩ := RepL.get' (i := i) (y := x) r (by simpa using e)
    exact ⟨y, by simpa using h1, h2⟩
theorem RepL.append : ∀ {v w : List V} {d e : List D}, RepL K F v d → RepL K F w e → RepL K F (v ++ w) (d ++ e)
  | _, _, _, _, .nil, s => s
  | _, _, _, _, .cons h r, s => .cons h (RepL.append r s)
theorem RepL.snoc {v : List V} {d : List D} {y : V} {x : D} (r : RepL K F v d) (h : Rep K F y x) : RepL K F (v ++ [y]) (d ++ [x]) := r.append (.cons h .nil)
theorem RepL.drop : ∀ {v : List V} {d : List D} (n : Nat), RepL K F v d → RepL K F (v.drop n) (d.drop n)
  | _, _, 0, r => r
  | _, _, _ + 1, .nil => .nil
  | _, _, n + 1, .cons _ r => RepL.drop n r
theorem RepL.take : ∀ {v : List V} {d : List D} (n : Nat), RepL K F v d → RepL K F (v.take n) (d.take n)
  | _, _, 0, r => .nil
  | _, _, _ + 1, .nil => .nil
  | _, _, n + 1, .cons h r => .cons h (RepL.take n r)
theorem RepL.reverse : ∀ {v : List V} {d : List D}, RepL K F v d → RepL K F v.reverse d.reverse
  | _, _, .nil => .nil
  | _, _, .cons h r => by rw [List.reverse_cons, List.reverse_cons]; exact r.reverse.snoc h
end

/-! ### ghosts, the context, the good state -/
structure Gh (T : Type) where
  ptr : Nat → Addr
  fp : List Addr
  J : T → Hp → Hp → Prop
  stab : ∀ t F H F' H', J t F H → Same F F' → (∀ a ∈ fp, H' a = H a) → J t F' H'
  loose : Bool := false
structure Ct (T : Type) extends Gh T where
  K : PySem.W.Frag
  cls : Nat → Addr
/-- the frozen part lies in the heap (a dict may be locked) -/
def Sub (F H : Hp) : Prop := ∀ a o, F a = some o → H a = some o ∨ ((∃ ks, o = .dK ks) ∧ ∃ ob, H a = some (.frz ob o))
def SlotOk {T : Type} (C : Ct T) (H0 : Hp) (L : Nat → Option Addr) (i : Nat) (F H : Hp) : Slot → Option (Option V) → Prop
  | .un, _ => True
  | .fz d, v => ∃ x, v = some (some x) ∧ Rep C.K F x d
  | .ol xs, v => ∃ p vs, v = some (some (.ref p)) ∧ F p = none ∧ H0 p = none ∧ H p = some (.lst vs) ∧ RepL C.K F vs xs
  | .od kvs, v => ∃ p ks, v = some (some (.ref p)) ∧ F p = none ∧ H0 p = none ∧ H p = some (.dK ks) ∧ RepKV C.K F ks kvs
  | .pt n, v => v = some (some (.ref (C.ptr n)))
  | .bw xs, v => ∃ q vs, L i = some q ∧ v = some (some (.ref q)) ∧ q ∉ C.fp ∧ H0 q = some (.lst vs) ∧ RepL C.K F vs xs
structure Good {T : Type} (C : Ct T) (F0 H0 : Hp) (L : Nat → Option Addr) (s : S T) (σ : L2.St) (F H : Hp) : Prop where
  len : s.env.length = σ.length
  sub : Sub F H
  ext0 : Same F0 F
  base : ∀ a o, H0 a = some o → a ∉ C.fp → H a = some o
  newF : ∀ a o, F a = some o → F0 a = some o ∨ H0 a = none ∨ (C.loose = true ∧ ∃ xs, o = .tup xs)
  fp0 : ∀ a ∈ C.fp, H0 a ≠ none
  fpF : ∀ a ∈ C.fp, F a = none
  fpH : ∀ a ∈ C.fp, H a ≠ none
  lH : ∀ (i : Nat) (q : Addr), L i = some q → H0 q ≠ none
  slots : ∀ (i : Nat) (x : Slot), s.env[i]? = some x → SlotOk C H0 L i F H x (σ[i]?)
  sep : ∀ (i j : Nat) (x y : Slot) (p : Addr), i ≠ j → s.env[i]? = some x → s.env[j]? = some y → x.owned = true → y.owned = true → σ[i]? = some (some (.ref p)) → σ[j]? ≠ some (some (.ref p))
  j : C.J s.t F H
/-- a new object that nobody holds yet -/
structure Tmp {T : Type} (C : Ct T) (H0 : Hp) (s : S T) (σ : L2.St) (F H : Hp) (p : Addr) : Prop where
  f : F p = none
  h0 : H0 p = none
  no : ∀ (i : Nat) (x : Slot), s.env[i]? = some x → x.owned = true → σ[i]? ≠ some (some (.ref p))

section
variable {T : Type} {C : Ct T} {F0 H0 F H F' H' : Hp} {L : Nat → Option Addr} {s : S T} {σ : L2.St}
theorem Same.updN {F : Hp} {p : Addr} {o : HO} (h : F p = none) : Same F (upd F p o) := fun b u e => by
  rw [upd_ne (ne_of_none e h)]
  exact e
theorem Sub.nn {a : Addr} (u : Sub F H) (h : H a = none) : F a = none := by
  cases e : F a with
  | none => rfl
  | some o =>
    rcases u a o e with z | ⟨_, ob, z⟩ <;> rw [h] at z <;> cases z
theorem Sub.lst {a : Addr} {xs : List V} (u : Sub F H) (h : F a = some (.lst xs)) : H a = some (.lst xs) := by
  rcases u a _ h with z | ⟨⟨ks, z⟩, _⟩
  · exact z
  · cases z
theorem Sub.tup {a : Addr} {xs : List V} {K : PySem.W.Frag} (u : Sub F H) (h : SqF K F a xs) : SqT K H a xs := by
  rcases h with (h | h) | h
  · rcases u a _ h with z | ⟨⟨ks, z⟩, _⟩
    · exact .inl (.inl z)
    · cases z
  · exact h.elim
  · exact .inr h.2
theorem Sub.dic {a : Addr} {ks : List (Key × V)} (u : Sub F H) (h : F a = some (.dK ks)) : Rd H a (.dK ks) := by
  rcases u a _ h with z | ⟨_, ob, z⟩
  · exact .inl z
  · exact .inr ⟨ob, z⟩
theorem Good.fresh (g : Good C F0 H0 L s σ F H) {p : Addr} (h : H p = none) : F p = none ∧ H0 p = none ∧ p ∉ C.fp := by
  refine ⟨g.sub.nn h, ?_, fun z => g.fpH p z h⟩
  cases e : H0 p with
  | none => rfl
  | some o =>
    by_cases z : p ∈ C.fp
    · exact absurd h (g.fpH p z)
    · rw [g.base p o e z] at h; cases h
/-- nothing that stands changes; what is newly frozen was not there -/
theorem Good.grow (g : Good C F0 H0 L s σ F H) (e : Same F F') (u : Sub F' H') (st : Same H H') (nw : ∀ a o, F' a = some o → F a = some o ∨ H a = none) : Good C F0 H0 L s σ F' H' where
  len := g.len
  sub := u
  ext0 := g.ext0.trans e
  base := fun a o h z => st a o (g.base a o h z)
  newF := fun a o h => by
    rcases nw a o h with z | z
    · exact g.newF a o z
    · exact .inr (.inl (g.fresh z).2.1)
  fp0 := g.fp0
  fpF := fun a z => by
    cases q : F' a with
    | none => rfl
    | some o =>
      rcases nw a o q with y | y
      · rw [g.fpF a z] at y; cases y
      · exact absurd y (g.fpH a z)
  fpH := fun a z h => g.fpH a z (Same.free st h)
  lH := g.lH
  slots := fun i x h => by
    have k := g.slots i x h
    have fr : ∀ p o, F p = none → H p = some o → F' p = none := fun p o h1 h2 => by
      cases q : F' p with
      | none => rfl
      | some o' =>
        rcases nw p o' q with y | y
        · rw [h1] at y; cases y
        · rw [h2] at y; cases y
    cases x with
    | un => trivial
    | fz d =>
      obtain ⟨v, h1, h2⟩ := k
      exact ⟨v, h1, h2.mono e⟩
    | ol xs =>
      obtain ⟨p, vs, h1, h2, h3, h4, h5⟩ := k
      exact ⟨p, vs, h1, fr p _ h2 h4, h3, st _ _ h4, h5.mono e⟩
    | od kvs =>
      obtain ⟨p, vs, h1, h2, h3, h4, h5⟩ := k
      exact ⟨p, vs, h1, fr p _ h2 h4, h3, st _ _ h4, h5.mono e⟩
    | pt n => exact k
    | bw xs =>
      obtain ⟨q, vs, h1, h2, h3, h4, h5⟩ := k
      exact ⟨q, vs, h1, h2, h3, h4, h5.mono e⟩
  sep := g.sep
  j := C.stab s.t F H F' H' g.j e fun a z => by
    cases q : H a with
    | none => exact absurd q (g.fpH a z)
    | some o => exact st a o q
/-- the same heap and frozen part, other slots of the same kind -/
theorem Tmp.fresh (g : Good C F0 H0 L s σ F H) {p : Addr} (h : H p = none) {o : HO} : Tmp C H0 s σ F (upd H p o) p where
  f := (g.fresh h).1
  h0 := (g.fresh h).2.1
  no := fun i x hx ho e => by
    have k := g.slots i x hx
    cases x with
    | ol xs =>
      obtain ⟨q, vs, h1, h2, h3, h4, h5⟩ := k
      rw [h1] at e; cases e
      rw [h] at h4; cases h4
    | od xs =>
      obtain ⟨q, vs, h1, h2, h3, h4, h5⟩ := k
      rw [h1] at e; cases e
      rw [h] at h4; cases h4
    | _ => cases ho
theorem Sub.updN {p : Addr} {o : HO} (u : Sub F H) (h : H p = none) : Sub F (upd H p o) := fun a o' e => by
  have hn : a ≠ p := ne_of_none e (u.nn h)
  rw [upd_ne hn]
  exact u a o' e
theorem Sub.upd2 {p : Addr} {o : HO} (u : Sub F H) : Sub (upd F p o) (upd H p o) := fun a o' e => by
  by_cases hn : a = p
  · subst hn
    rw [upd_same] at e ⊢
    exact .inl e
  · rw [upd_ne hn] at e ⊢
    exact u a o' e
/-- a new object stands, not frozen -/
theorem Good.alloc (g : Good C F0 H0 L s σ F H) {p : Addr} {o : HO} (h : H p = none) : Good C F0 H0 L s σ F (upd H p o) :=
  g.grow (Same.refl F) (g.sub.updN h) (Same.updN h) fun a o' e => .inl e
/-- a new object stands, frozen -/
theorem Good.allocF (g : Good C F0 H0 L s σ F H) {p : Addr} {o : HO} (h : H p = none) : Good C F0 H0 L s σ (upd F p o) (upd H p o) :=
  g.grow (Same.updN (g.sub.nn h)) g.sub.upd2 (Same.updN h) fun a o' e => by
    by_cases hn : a = p
    · subst hn; exact .inr h
    · rw [upd_ne hn] at e; exact .inl e
/-- an object that nobody holds is frozen -/
theorem Good.freeze (g : Good C F0 H0 L s σ F H) {p : Addr} {o : HO} (t : Tmp C H0 s σ F H p) (h : H p = some o) : Good C F0 H0 L s σ (upd F p o) H where
  len := g.len
  sub := fun a o' e => by
    by_cases hn : a = p
    · subst hn
      rw [upd_same] at e; cases e
      exact .inl h
    · rw [upd_ne hn] at e
      exact g.sub a o' e
  ext0 := g.ext0.trans (Same.updN t.f)
  base := g.base
  newF := fun a o' e => by
    by_cases hn : a = p
    · subst hn; exact .inr (.inl t.h0)
    · rw [upd_ne hn] at e; exact g.newF a o' e
  fp0 := g.fp0
  fpF := fun a z => by
    have hn : a ≠ p := fun y => g.fp0 a z (by rw [y]; exact t.h0)
    rw [upd_ne hn]
    exact g.fpF a z
  fpH := g.fpH
  lH := g.lH
  slots := fun i x hx => by
    have k := g.slots i x hx
    have e := Same.updN (o := o) t.f
    cases x with
    | un => trivial
    | fz d =>
      obtain ⟨v, h1, h2⟩ := k
      exact ⟨v, h1, h2.mono e⟩
    | ol xs =>
      obtain ⟨q, vs, h1, h2, h3, h4, h5⟩ := k
      refine ⟨q, vs, h1, ?_, h3, h4, h5.mono e⟩
      rw [upd_ne (fun y => t.no i _ hx rfl (by rw [h1, y]))]
      exact h2
    | od xs =>
      obtain ⟨q, vs, h1, h2, h3, h4, h5⟩ := k
      refine ⟨q, vs, h1, ?_, h3, h4, h5.mono e⟩
      rw [upd_ne (fun y => t.no i _ hx rfl (by rw [h1, y]))]
      exact h2
    | pt n => exact k
    | bw xs =>
      obtain ⟨q, vs, h1, h2, h3, h4, h5⟩ := k
      exact ⟨q, vs, h1, h2, h3, h4, h5.mono e⟩
  sep := g.sep
  j := C.stab s.t F H _ H g.j (Same.updN t.f) fun a _ => rfl
/-- a slot is stored -/
theorem Good.set (g : Good C F0 H0 L s σ F H) (i : Nat) {x : Slot} {v : V} (k : SlotOk C H0 L i F H x (some (some v))) (ho : ∀ p, x.owned = true → v = .ref p → ∀ (j : Nat) (y : Slot), j ≠ i → s.env[j]? = some y → y.owned = true → σ[j]? ≠ some (some (.ref p))) :
    Good C F0 H0 L ⟨s.env.set i x, s.t⟩ (σ.set i (some v)) F H where
  len := by simpa using g.len
  sub := g.sub
  ext0 := g.ext0
  base := g.base
  newF := g.newF
  fp0 := g.fp0
  fpF := g.fpF
  fpH := g.fpH
  lH := g.lH
  slots := fun a y h => by
    by_cases e : i = a
    · subst e
      by_cases hl : i < s.env.length
      · rw [List.getElem?_set_self hl] at h
        cases h
        rw [List.getElem?_set_self (by rw [← g.len]; exact hl)]
        exact k
      · rw [List.getElem?_eq_none (by simpa using hl)] at h
        cases h
    · rw [List.getElem?_set_ne e] at h ⊢
      exact g.slots a y h
  sep := fun a b y z p hab h1 h2 o1 o2 e1 e2 => by
    by_cases ea : i = a
    · subst ea
      by_cases hl : i < s.env.length
      · rw [List.getElem?_set_self hl] at h1
        cases h1
        rw [List.getElem?_set_self (by rw [← g.len]; exact hl)] at e1
        rw [List.getElem?_set_ne hab] at h2 e2
        exact ho p o1 (Option.some.inj (Option.some.inj e1)) b z (Ne.symm hab) h2 o2 e2
      · rw [List.getElem?_eq_none (by simpa using hl)] at h1
        cases h1
    · rw [List.getElem?_set_ne ea] at h1 e1
      by_cases eb : i = b
      · subst eb
        by_cases hl : i < s.env.length
        · rw [List.getElem?_set_self hl] at h2
          cases h2
          rw [List.getElem?_set_self (by rw [← g.len]; exact hl)] at e2
          exact ho p o2 (Option.some.inj (Option.some.inj e2)) a y hab h1 o1 e1
        · rw [List.getElem?_eq_none (by simpa using hl)] at h2
          cases h2
      · rw [List.getElem?_set_ne eb] at h2 e2
        exact g.sep a b y z p hab h1 h2 o1 o2 e1 e2
  j := g.j
theorem Good.setFz (g : Good C F0 H0 L s σ F H) (i : Nat) {d : D} {v : V} (r : Rep C.K F v d) : Good C F0 H0 L ⟨s.env.set i (.fz d), s.t⟩ (σ.set i (some v)) F H :=
  g.set i (x := .fz d) ⟨v, rfl, r⟩ fun _ z => by cases z
/-- the slot's store where the value stands there already -/
theorem set_self' {α : Type} : ∀ {l : List α} {i : Nat} {x : α}, l[i]? = some x → l.set i x = l
  | [], _, _, h => by simp at h
  | a :: r, 0, x, h => by simp at h; subst h; rfl
  | a :: r, i + 1, x, h => by
    show a :: r.set i x = a :: r
    rw [set_self' (by simpa using h)]
theorem Good.reset (g : Good C F0 H0 L s σ F H) (i : Nat) {x : Slot} {v : V} (hv : σ[i]? = some (some v)) (k : SlotOk C H0 L i F H x (some (some v))) (ho : ∀ p, x.owned = true → v = .ref p → ∀ (j : Nat) (y : Slot), j ≠ i → s.env[j]? = some y → y.owned = true → σ[j]? ≠ some (some (.ref p))) :
    Good C F0 H0 L ⟨s.env.set i x, s.t⟩ σ F H := by
  have q := g.set i k ho
  rw [set_self' hv] at q
  exact q
/-- a slot is forgotten -/
theorem Good.forget (g : Good C F0 H0 L s σ F H) (i : Nat) : Good C F0 H0 L ⟨s.env.set i .un, s.t⟩ σ F H where
  len := by simpa using g.len
  sub := g.sub
  ext0 := g.ext0
  base := g.base
  newF := g.newF
  fp0 := g.fp0
  fpF := g.fpF
  fpH := g.fpH
  lH := g.lH
  slots := fun a y h => by
    by_cases e : i = a
    · subst e
      by_cases hl : i < s.env.length
      · rw [List.getElem?_set_self hl] at h
        cases h
        trivial
      · rw [List.getElem?_eq_none (by simpa using hl)] at h
        cases h
    · rw [List.getElem?_set_ne e] at h
      exact g.slots a y h
  sep := fun a b y z p hab h1 h2 o1 o2 => by
    by_cases ea : i = a
    · subst ea
      by_cases hl : i < s.env.length
      · rw [List.getElem?_set_self hl] at h1
        cases h1
        cases o1
      · rw [List.getElem?_eq_none (by simpa using hl)] at h1
        cases h1
    · rw [List.getElem?_set_ne ea] at h1
      by_cases eb : i = b
      · subst eb
        by_cases hl : i < s.env.length
        · rw [List.getElem?_set_self hl] at h2
          cases h2
          cases o2
        · rw [List.getElem?_eq_none (by simpa using hl)] at h2
          cases h2
      · rw [List.getElem?_set_ne eb] at h2
        exact g.sep a b y z p hab h1 h2 o1 o2
  j := g.j
/-- the object of an owned slot is changed -/
theorem Good.mutate (g : Good C F0 H0 L s σ F H) {i : Nat} {x y : Slot} {p : Addr} {o : HO} (hi : s.env[i]? = some x) (ox : x.owned = true) (hp : σ[i]? = some (some (.ref p))) (k : SlotOk C H0 L i F (upd H p o) y (some (some (.ref p)))) (fp : F p = none) (h0 : H0 p = none) (hn : ∃ u, H p = some u) :
    Good C F0 H0 L ⟨s.env.set i y, s.t⟩ σ F (upd H p o) := by
  have pf : p ∉ C.fp := fun z => g.fp0 p z h0
  have g1 : Good C F0 H0 L ⟨s.env.set i .un, s.t⟩ σ F (upd H p o) := {
    len := by simpa using g.len
    sub := fun a o' e => by
      have hn : a ≠ p := ne_of_none e fp
      rw [upd_ne hn]
      exact g.sub a o' e
    ext0 := g.ext0
    base := fun a o' e z => by
      have hn : a ≠ p := ne_of_none e h0
      rw [upd_ne hn]
      exact g.base a o' e z
    newF := g.newF
    fp0 := g.fp0
    fpF := g.fpF
    fpH := fun a z => by
      have hn : a ≠ p := fun y => pf (y ▸ z)
      rw [upd_ne hn]
      exact g.fpH a z
    lH := g.lH
    slots := fun a z h => by
      by_cases e : i = a
      · subst e
        by_cases hl : i < s.env.length
        · rw [List.getElem?_set_self hl] at h
          cases h
          trivial
        · rw [List.getElem?_eq_none (by simpa using hl)] at h
          cases h
      · rw [List.getElem?_set_ne e] at h
        have k := g.slots a z h
        cases z with
        | un => trivial
        | fz d => exact k
        | pt n => exact k
        | bw xs => exact k
        | ol xs =>
          obtain ⟨q, vs, h1, h2, h3, h4, h5⟩ := k
          refine ⟨q, vs, h1, h2, h3, ?_, h5⟩
          rw [upd_ne]
          · exact h4
          · rintro rfl
            exact g.sep i a x (.ol xs) q e hi h ox rfl hp h1
        | od xs =>
          obtain ⟨q, vs, h1, h2, h3, h4, h5⟩ := k
          refine ⟨q, vs, h1, h2, h3, ?_, h5⟩
          rw [upd_ne]
          · exact h4
          · rintro rfl
            exact g.sep i a x (.od xs) q e hi h ox rfl hp h1
    sep := (g.forget i).sep
    j := C.stab s.t F H F _ g.j (Same.refl F) fun a z => upd_ne fun y => pf (y ▸ z) }
  have q := g1.reset i (x := y) hp k fun p' _ e j z hj hz oz e2 => by
    cases e
    rw [List.getElem?_set_ne (Ne.symm hj)] at hz
    exact g.sep i j x z p (Ne.symm hj) hi hz ox oz hp e2
  simpa [List.set_set] using q
/-! ### protecting an object that nobody holds; borrowing -/
theorem Good.protect (g : Good C F0 H0 L s σ F H) {p : Addr} {o : HO} (t : Tmp C H0 s σ F H p) (h : H p = some o) : Good C F0 (upd H0 p o) L s σ F H where
  len := g.len
  sub := g.sub
  ext0 := g.ext0
  base := fun a u e z => by
    by_cases hn : a = p
    · subst hn
      rw [upd_same] at e; cases e
      exact h
    · rw [upd_ne hn] at e
      exact g.base a u e z
  newF := fun a u e => by
    have hn : a ≠ p := ne_of_none e t.f
    rw [upd_ne hn]
    exact g.newF a u e
  fp0 := fun a z e => by
    by_cases hn : a = p
    · subst hn
      rw [upd_same] at e; cases e
    · rw [upd_ne hn] at e
      exact g.fp0 a z e
  fpF := g.fpF
  fpH := g.fpH
  lH := fun i q e z => by
    by_cases hn : q = p
    · subst hn
      rw [upd_same] at z; cases z
    · rw [upd_ne hn] at z
      exact g.lH i q e z
  slots := fun i x hx => by
    have k := g.slots i x hx
    cases x with
    | un => trivial
    | fz d => exact k
    | pt n => exact k
    | ol xs =>
      obtain ⟨q, vs, h1, h2, h3, h4, h5⟩ := k
      refine ⟨q, vs, h1, h2, ?_, h4, h5⟩
      rw [upd_ne (fun y => t.no i _ hx rfl (by rw [h1, y]))]
      exact h3
    | od xs =>
      obtain ⟨q, vs, h1, h2, h3, h4, h5⟩ := k
      refine ⟨q, vs, h1, h2, ?_, h4, h5⟩
      rw [upd_ne (fun y => t.no i _ hx rfl (by rw [h1, y]))]
      exact h3
    | bw xs =>
      obtain ⟨q, vs, h1, h2, h3, h4, h5⟩ := k
      refine ⟨q, vs, h1, h2, h3, ?_, h5⟩
      rw [upd_ne (ne_of_none h4 t.h0)]
      exact h4
  sep := g.sep
  j := g.j
theorem Good.unprotect {p : Addr} {o : HO} (g : Good C F0 (upd H0 p o) L s σ F H) (h0 : H0 p = none) (fp : F0 p = none) (pfp : p ∉ C.fp) (hL : ∀ (i : Nat) (q : Addr), L i = some q → H0 q ≠ none) (hto : ∀ xs, o ≠ .tup xs := by exact fun _ z => nomatch z) : Good C F0 H0 L s σ F H ∧ Tmp C H0 s σ F H p ∧ H p = some o := by
  have hF : F p = none := by
    cases e : F p with
    | none => rfl
    | some u =>
      rcases g.newF p u e with z | z | ⟨_, xs, rfl⟩
      · rw [fp] at z; cases z
      · rw [upd_same] at z; cases z
      · have k1 := g.base p o upd_same pfp
        rcases g.sub p _ e with k2 | ⟨⟨ks, k2⟩, _⟩
        · rw [k1] at k2; cases k2; exact absurd rfl (hto xs)
        · cases k2
  have up : ∀ a, (upd H0 p o) a = none → H0 a = none := fun a e => by
    by_cases hn : a = p
    · subst hn; exact h0
    · rw [upd_ne hn] at e; exact e
  refine ⟨⟨g.len, g.sub, g.ext0, fun a u e z => g.base a u (by rw [upd_ne (ne_of_none e h0)]; exact e) z, fun a u e => (g.newF a u e).imp id (fun z => z.imp (up a) id), fun a z e => ?_, g.fpF, g.fpH, hL, fun i x hx => ?_, g.sep, g.j⟩, ⟨hF, h0, fun i x hx ho e => ?_⟩, g.base p o upd_same pfp⟩
  · have q := g.fp0 a z
    have hn : a ≠ p := fun y => by rw [y] at z; exact pfp z
    rw [upd_ne hn] at q
    exact q e
  · have k := g.slots i x hx
    cases x with
    | un => trivial
    | fz d => exact k
    | pt n => exact k
    | ol xs =>
      obtain ⟨q, vs, h1, h2, h3, h4, h5⟩ := k
      exact ⟨q, vs, h1, h2, up _ h3, h4, h5⟩
    | od xs =>
      obtain ⟨q, vs, h1, h2, h3, h4, h5⟩ := k
      exact ⟨q, vs, h1, h2, up _ h3, h4, h5⟩
    | bw xs =>
      obtain ⟨q, vs, h1, h2, h3, h4, h5⟩ := k
      rw [upd_ne (fun y => hL i q h1 (by rw [y]; exact h0))] at h4
      exact ⟨q, vs, h1, h2, h3, h4, h5⟩
  · have k := g.slots i x hx
    cases x with
    | ol xs =>
      obtain ⟨q, vs, h1, h2, h3, h4, h5⟩ := k
      rw [h1] at e; cases e
      rw [upd_same] at h3; cases h3
    | od xs =>
      obtain ⟨q, vs, h1, h2, h3, h4, h5⟩ := k
      rw [h1] at e; cases e
      rw [upd_same] at h3; cases h3
    | _ => cases ho
end
end Pm

set_option Elab.async false
set_option linter.all false
set_option maxRecDepth 100000
/-! Judgements: a reading of the hand layer keeps to a function of the slots; expressions. -/
namespace Pm
open PySem L2

section
variable {T : Type} (C : Ct T) (W : WX)
def Po (F0 H0 : Hp) (L : Nat → Option Addr) (F : Hp) (σ : L2.St) {α : Type} (G : α → S T → Hp → Hp → Prop) : Res T α → Prop
  | .ok a s' => ∀ F' H', Good C F0 H0 L s' σ F' H' → Same F F' → G a s' F' H'
  | .exc c s' => ∀ F' H', Good C F0 H0 L s' σ F' H' → Same F F' → W (.ref (C.cls c)) none σ H'
  | .stuck => False
/-- a value as a slot's content, held by nobody yet -/
def SlotV (H0 : Hp) (s : S T) (σ : L2.St) (F H : Hp) (v : V) : Slot → Prop
  | .un => True
  | .fz d => Rep C.K F v d
  | .ol xs => ∃ p vs, v = .ref p ∧ Tmp C H0 s σ F H p ∧ H p = some (.lst vs) ∧ RepL C.K F vs xs
  | .od kvs => ∃ p ks, v = .ref p ∧ Tmp C H0 s σ F H p ∧ H p = some (.dK ks) ∧ RepKV C.K F ks kvs
  | .pt n => v = .ref (C.ptr n)
  | .bw _ => False
def Sv (t : TE) (f : M T D) : Prop := ∀ F0 H0 L s σ F H (Q : VK), Good C F0 H0 L s σ F H → Po C W F0 H0 L F σ (fun d _ F' H' => ∀ v, Rep C.K F' v d → Q v H') (f s) → t σ H Q
def Stt (t : TT) (f : M T Bool) : Prop := ∀ F0 H0 L s σ F H (Q : Bool → Hp → Prop), Good C F0 H0 L s σ F H → Po C W F0 H0 L F σ (fun b _ _ H' => Q b H') (f s) → t σ H Q
def Sa (t : TA) (f : M T (List D)) : Prop := ∀ F0 H0 L s σ F H (Q : List V → Hp → Prop), Good C F0 H0 L s σ F H → Po C W F0 H0 L F σ (fun ds _ F' H' => ∀ vs, RepL C.K F' vs ds → Q vs H') (f s) → t σ H Q
def Se (t : TE) (f : M T Slot) : Prop := ∀ F0 H0 L s σ F H (Q : VK), Good C F0 H0 L s σ F H → Po C W F0 H0 L F σ (fun x s' F' H' => ∀ v, SlotV C H0 s' σ F' H' v x → Q v H') (f s) → t σ H Q
/-- a two-place operation by values -/
def Rv (r : R2) (op : D → D → Option D) : Prop := ∀ F0 H0 L (s : S T) σ F H x y a b (Q : VK), Good C F0 H0 L s σ F H → Rep C.K F x a → Rep C.K F y b →
  (match op a b with
    | some d => ∀ v F' H', Good C F0 H0 L s σ F' H' → Same F F' → Rep C.K F' v d → Q v H'
    | none => False) → r x y H Q
def Ru (r : V → Hp → VK → Prop) (op : D → Option D) : Prop := ∀ F0 H0 L (s : S T) σ F H x a (Q : VK), Good C F0 H0 L s σ F H → Rep C.K F x a →
  (match op a with
    | some d => ∀ v F' H', Good C F0 H0 L s σ F' H' → Same F F' → Rep C.K F' v d → Q v H'
    | none => False) → r x H Q
/-- a built-in by values -/
def Rc (r : List V → Hp → VK → Prop) (op : List D → Option D) : Prop := ∀ F0 H0 L (s : S T) σ F H xs as (Q : VK), Good C F0 H0 L s σ F H → RepL C.K F xs as →
  (match op as with
    | some d => ∀ v F' H', Good C F0 H0 L s σ F' H' → Same F F' → Rep C.K F' v d → Q v H'
    | none => False) → r xs H Q
end

def mOp {T : Type} (op : D → D → Option D) (fa fb : M T D) : M T D := mBind fa fun a => mBind fb fun b => mLift (op a b)
def mUn {T : Type} (op : D → Option D) (fa : M T D) : M T D := mBind fa fun a => mLift (op a)
def mCons {T : Type} (fa : M T D) (fr : M T (List D)) : M T (List D) := mBind fa fun a => mBind fr fun r => mRet (a :: r)
def asB : D → Option Bool
  | .bool b => some b
  | _ => none
def mB {T : Type} (f : M T D) : M T Bool := mBind f fun d => mLift (asB d)
def mIf {T α : Type} (c : M T Bool) (a b : M T α) : M T α := mBind c fun k => match k with
  | true => a
  | false => b
def mNot {T : Type} (c : M T Bool) : M T Bool := mBind c fun k => mRet (!k)
def mOfB {T : Type} (c : M T Bool) : M T D := mBind c fun k => mRet (.bool k)
def mAnd {T : Type} (a b : M T Bool) : M T Bool := mIf a b (mRet false)
def mOr {T : Type} (a b : M T Bool) : M T Bool := mIf a (mRet true) b
/-- a and b as a value, a a bool -/
def mAndV {T : Type} (a b : M T D) : M T D := mIf (mB a) b (mRet (.bool false))
def mOrV {T : Type} (a b : M T D) : M T D := mIf (mB a) (mRet (.bool true)) b
def mVar {T : Type} (i : Nat) : M T D := fun s => match s.env[i]? with
  | some (.fz d) => .ok d s
  | some (.ol xs) => .ok (.list xs) ⟨s.env.set i (.fz (.list xs)), s.t⟩
  | some (.od kvs) => .ok (.dict kvs) ⟨s.env.set i (.fz (.dict kvs)), s.t⟩
  | _ => .stuck
def mChain {T : Type} (op op' : D → D → Option D) (fa fb fc : M T D) : M T D := mBind fa fun a => mBind fb fun b => mBind (mB (mLift (op a b))) fun k => match k with
  | true => mBind fc fun c => mLift (op' b c)
  | false => mRet (.bool false)

section
variable {T : Type} {C : Ct T} {W : WX} {F0 H0 F F1 H : Hp} {L : Nat → Option Addr} {s : S T} {σ : L2.St} {α β : Type}
theorem po_from {G : α → S T → Hp → Hp → Prop} {r : Res T α} (h : Po C W F0 H0 L F σ G r) (e : Same F F1) : Po C W F0 H0 L F1 σ G r := by
  cases r with
  | ok a s' => exact fun F' H' g e' => h F' H' g (e.trans e')
  | exc c s' => exact fun F' H' g e' => h F' H' g (e.trans e')
  | stuck => exact h
theorem po_imp {G G' : α → S T → Hp → Hp → Prop} {r : Res T α} (h : Po C W F0 H0 L F σ G r) (k : ∀ a s' F' H', Good C F0 H0 L s' σ F' H' → Same F F' → G a s' F' H' → G' a s' F' H') : Po C W F0 H0 L F σ G' r := by
  cases r with
  | ok a s' => exact fun F' H' g e' => k a s' F' H' g e' (h F' H' g e')
  | exc c s' => exact h
  | stuck => exact h
theorem po_bind {m : M T α} {f : α → M T β} {G : β → S T → Hp → Hp → Prop} (h : Po C W F0 H0 L F σ G (mBind m f s)) : Po C W F0 H0 L F σ (fun a s1 F1 _ => Po C W F0 H0 L F1 σ G (f a s1)) (m s) := by
  unfold mBind at h
  cases q : m s with
  | ok a s' =>
    rw [q] at h
    exact fun F' H' g e' => po_from h e'
  | exc c s' =>
    rw [q] at h
    exact h
  | stuck =>
    rw [q] at h
    exact h
/-- where the outcome is known at once -/
theorem po_ret {a : α} {G : α → S T → Hp → Hp → Prop} (h : Po C W F0 H0 L F σ G (mRet a s)) (g : Good C F0 H0 L s σ F H) : G a s F H := h F H g (Same.refl F)
theorem po_lift {o : Option α} {G : α → S T → Hp → Hp → Prop} (h : Po C W F0 H0 L F σ G (mLift o s)) : ∃ a, o = some a ∧ Po C W F0 H0 L F σ G (mRet a s) := by
  unfold mLift at h
  cases q : o with
  | none => rw [q] at h; exact h.elim
  | some a => rw [q] at h; exact ⟨a, rfl, h⟩
theorem sv_var (i : Nat) : Sv C W (tVar i) (mVar i) := by
  intro F0 H0 L s σ F H Q g h
  unfold mVar at h
  cases q : s.env[i]? with
  | none => rw [q] at h; exact h.elim
  | some x =>
    rw [q] at h
    have k := g.slots i x q
    cases x with
    | un => exact h.elim
    | pt n => exact h.elim
    | bw xs => exact h.elim
    | fz d =>
      obtain ⟨v, h1, h2⟩ := k
      exact ⟨v, h1, h F H g (Same.refl F) v h2⟩
    | ol xs =>
      obtain ⟨p, vs, h1, h2, h3, h4, h5⟩ := k
      have t : Tmp C H0 ⟨s.env.set i .un, s.t⟩ σ F H p := ⟨h2, h3, fun j y hj oy e => by
        by_cases ij : i = j
        · subst ij
          by_cases hl : i < s.env.length
          · rw [List.getElem?_set_self hl] at hj; cases hj; cases oy
          · rw [List.getElem?_eq_none (by simpa using hl)] at hj; cases hj
        · rw [List.getElem?_set_ne ij] at hj
          exact g.sep i j _ y p ij q hj rfl oy h1 e⟩
      have e := Same.updN (o := HO.lst vs) h2
      have g2 := ((g.forget i).freeze t h4).reset i (x := .fz (.list xs)) h1 ⟨_, rfl, .lst upd_same (h5.mono e)⟩ fun _ z => by cases z
      simp only [List.set_set] at g2
      exact ⟨.ref p, h1, h _ H g2 e _ (.lst upd_same (h5.mono e))⟩
    | od xs =>
      obtain ⟨p, vs, h1, h2, h3, h4, h5⟩ := k
      have t : Tmp C H0 ⟨s.env.set i .un, s.t⟩ σ F H p := ⟨h2, h3, fun j y hj oy e => by
        by_cases ij : i = j
        · subst ij
          by_cases hl : i < s.env.length
          · rw [List.getElem?_set_self hl] at hj; cases hj; cases oy
          · rw [List.getElem?_eq_none (by simpa using hl)] at hj; cases hj
        · rw [List.getElem?_set_ne ij] at hj
          exact g.sep i j _ y p ij q hj rfl oy h1 e⟩
      have e := Same.updN (o := HO.dK vs) h2
      have g2 := ((g.forget i).freeze t h4).reset i (x := .fz (.dict xs)) h1 ⟨_, rfl, .dic upd_same (h5.mono e)⟩ fun _ z => by cases z
      simp only [List.set_set] at g2
      exact ⟨.ref p, h1, h _ H g2 e _ (.dic upd_same (h5.mono e))⟩
theorem sv_c {v : V} {d : D} (r : ∀ F, Rep C.K F v d) : Sv C W (tC v) (mRet d) := fun F0 H0 L s σ F H Q g h => po_ret h g v (r F)
theorem sv_int {i : Int} : Sv C W (tC (.int i)) (mRet (.int i)) := sv_c fun _ => .int i
theorem sv_bl {b : Bool} : Sv C W (tC (.bl b)) (mRet (.bool b)) := sv_c fun _ => .bl b
theorem sv_non : Sv C W (tC .non) (mRet .none) := sv_c fun _ => .non
theorem sv_str {x : Str} : Sv C W (tC (.str x)) (mRet (.str x)) := sv_c fun _ => .str x
variable {ta tb tc : TE} {fa fb fc : M T D} {t u : TT} {ft fu : M T Bool}
theorem sv_op {r : R2} {op : D → D → Option D} (ha : Sv C W ta fa) (hb : Sv C W tb fb) (hr : Rv C r op) : Sv C W (tOp r ta tb) (mOp op fa fb) := by
  intro F0 H0 L s σ F H Q g h
  refine ha _ _ _ _ _ _ _ _ g (po_imp (po_bind h) fun a s1 F1 H1 g1 e1 h1 v rv => ?_)
  refine hb _ _ _ _ _ _ _ _ g1 (po_imp (po_bind h1) fun b s2 F2 H2 g2 e2 h2 w rw' => ?_)
  refine hr _ _ _ _ _ _ _ _ _ _ _ _ g2 (rv.mono e2) rw' ?_
  unfold mLift at h2
  cases q : op a b with
  | none => rw [q] at h2; exact h2.elim
  | some d =>
    rw [q] at h2
    exact fun v' F' H' g' e' r' => h2 F' H' g' e' v' r'
theorem sv_un {r : V → Hp → VK → Prop} {op : D → Option D} (ha : Sv C W ta fa) (hr : Ru C r op) : Sv C W (tUn r ta) (mUn op fa) := by
  intro F0 H0 L s σ F H Q g h
  refine ha _ _ _ _ _ _ _ _ g (po_imp (po_bind h) fun a s1 F1 H1 g1 e1 h1 v rv => ?_)
  refine hr _ _ _ _ _ _ _ _ _ _ g1 rv ?_
  unfold mLift at h1
  cases q : op a with
  | none => rw [q] at h1; exact h1.elim
  | some d =>
    rw [q] at h1
    exact fun v' F' H' g' e' r' => h1 F' H' g' e' v' r'
theorem rep_bool {K : PySem.W.Frag} {F : Hp} {v : V} {d : D} {b : Bool} (r : Rep K F v d) (h : asB d = some b) : v = .bl b := by
  cases r with
  | bl c => cases h; rfl
  | _ => cases h
theorem stt_B (h : Sv C W ta fa) : Stt C W (tB ta) (mB fa) := by
  intro F0 H0 L s σ F H Q g k
  refine h _ _ _ _ _ _ _ _ g (po_imp (po_bind k) fun a s1 F1 H1 g1 e1 h1 v rv => ?_)
  unfold mLift at h1
  cases q : asB a with
  | none => rw [q] at h1; exact h1.elim
  | some b =>
    rw [q] at h1
    exact ⟨b, rep_bool rv q, h1 F1 H1 g1 (Same.refl _)⟩
theorem stt_test (h : Sv C W ta fa) : Stt C W (tTest ta) (mB fa) := stt_B h
theorem stt_and (h : Stt C W t ft) (k : Stt C W u fu) : Stt C W (tAnd t u) (mAnd ft fu) := by
  intro F0 H0 L s σ F H Q g q
  refine h _ _ _ _ _ _ _ _ g (po_imp (po_bind q) fun a s1 F1 H1 g1 e1 h1 => ?_)
  cases a with
  | true => exact iteT (k _ _ _ _ _ _ _ _ g1 h1)
  | false => exact iteF (po_ret h1 g1)
theorem stt_or (h : Stt C W t ft) (k : Stt C W u fu) : Stt C W (tOr t u) (mOr ft fu) := by
  intro F0 H0 L s σ F H Q g q
  refine h _ _ _ _ _ _ _ _ g (po_imp (po_bind q) fun a s1 F1 H1 g1 e1 h1 => ?_)
  cases a with
  | true => exact iteT (po_ret h1 g1)
  | false => exact iteF (k _ _ _ _ _ _ _ _ g1 h1)
theorem stt_not (h : Stt C W t ft) : Stt C W (tNot t) (mNot ft) := by
  intro F0 H0 L s σ F H Q g q
  exact h _ _ _ _ _ _ _ _ g (po_imp (po_bind q) fun a s1 F1 H1 g1 e1 h1 => po_ret h1 g1)
theorem sv_ifE (hc : Stt C W t ft) (ha : Sv C W ta fa) (hb : Sv C W tb fb) : Sv C W (tIf t ta tb) (mIf ft fa fb) := by
  intro F0 H0 L s σ F H Q g q
  refine hc _ _ _ _ _ _ _ _ g (po_imp (po_bind q) fun a s1 F1 H1 g1 e1 h1 => ?_)
  cases a with
  | true => exact iteT (ha _ _ _ _ _ _ _ _ g1 h1)
  | false => exact iteF (hb _ _ _ _ _ _ _ _ g1 h1)
theorem sv_andV (ha : Sv C W ta fa) (hb : Sv C W tb fb) : Sv C W (tAndV ta tb) (mAndV fa fb) := by
  intro F0 H0 L s σ F H Q g q
  refine ha _ _ _ _ _ _ _ _ g (po_imp (po_bind (po_bind q)) fun a s1 F1 H1 g1 e1 h1 v rv => ?_)
  unfold mLift at h1
  cases q1 : asB a with
  | none => rw [q1] at h1; exact h1.elim
  | some b =>
    rw [q1] at h1
    have h2 := h1 F1 H1 g1 (Same.refl _)
    refine ⟨b, rep_bool rv q1, ?_⟩
    cases b with
    | true => exact iteT (hb _ _ _ _ _ _ _ _ g1 h2)
    | false => exact iteF (po_ret h2 g1 _ (.bl false))
theorem sv_orV (ha : Sv C W ta fa) (hb : Sv C W tb fb) : Sv C W (tOrV ta tb) (mOrV fa fb) := by
  intro F0 H0 L s σ F H Q g q
  refine ha _ _ _ _ _ _ _ _ g (po_imp (po_bind (po_bind q)) fun a s1 F1 H1 g1 e1 h1 v rv => ?_)
  unfold mLift at h1
  cases q1 : asB a with
  | none => rw [q1] at h1; exact h1.elim
  | some b =>
    rw [q1] at h1
    have h2 := h1 F1 H1 g1 (Same.refl _)
    refine ⟨b, rep_bool rv q1, ?_⟩
    cases b with
    | true => exact iteT (po_ret h2 g1 _ (.bl true))
    | false => exact iteF (hb _ _ _ _ _ _ _ _ g1 h2)
theorem sv_notV (ha : Sv C W ta fa) : Sv C W (tNotV ta) (mOfB (mNot (mB fa))) := by
  intro F0 H0 L s σ F H Q g q
  refine ha _ _ _ _ _ _ _ _ g (po_imp (po_bind (po_bind (po_bind q))) fun a s1 F1 H1 g1 e1 h1 v rv => ?_)
  unfold mLift at h1
  cases q1 : asB a with
  | none => rw [q1] at h1; exact h1.elim
  | some b =>
    rw [q1] at h1
    have h2 := h1 F1 H1 g1 (Same.refl _)
    exact ⟨b, rep_bool rv q1, po_ret (po_ret h2 g1) g1 _ (.bl _)⟩
theorem sv_chain {r r' : R2} {op op' : D → D → Option D} (ha : Sv C W ta fa) (hb : Sv C W tb fb) (hc : Sv C W tc fc) (hr : Rv C r op) (hr' : Rv C r' op') : Sv C W (tChain r r' ta tb tc) (mChain op op' fa fb fc) := by
  intro F0 H0 L s σ F H Q g q
  refine ha _ _ _ _ _ _ _ _ g (po_imp (po_bind q) fun a s1 F1 H1 g1 e1 h1 v rv => ?_)
  refine hb _ _ _ _ _ _ _ _ g1 (po_imp (po_bind h1) fun b s2 F2 H2 g2 e2 h2 w rw' => ?_)
  refine hr _ _ _ _ _ _ _ _ _ _ _ _ g2 (rv.mono e2) rw' ?_
  have h3 := po_bind (po_bind h2)
  unfold mLift at h3
  cases q : op a b with
  | none => rw [q] at h3; exact h3.elim
  | some d =>
    rw [q] at h3
    intro z F3 H3 g3 e3 rz
    have h4 := h3 F3 H3 g3 e3
    dsimp only at h4
    cases q1 : asB d with
    | none => rw [q1] at h4; exact h4.elim
    | some k =>
      rw [q1] at h4
      have h5 := h4 F3 H3 g3 (Same.refl _)
      refine ⟨k, rep_bool rz q1, ?_⟩
      cases k with
      | false => exact iteF (po_ret h5 g3 _ (.bl false))
      | true =>
        refine iteT (hc _ _ _ _ _ _ _ _ g3 (po_imp (po_bind h5) fun c s4 F4 H4 g4 e4 h6 y ry => ?_))
        refine hr' _ _ _ _ _ _ _ _ _ _ _ _ g4 ((rw'.mono e3).mono e4) ry ?_
        unfold mLift at h6
        cases q2 : op' b c with
        | none => rw [q2] at h6; exact h6.elim
        | some d' =>
          rw [q2] at h6
          exact fun v' F' H' g' e' r' => h6 F' H' g' e' v' r'
variable {tr : TA} {fr : M T (List D)}
theorem sa_nil : Sa C W tNil (mRet []) := fun F0 H0 L s σ F H Q g h => po_ret h g [] .nil
theorem sa_cons (ha : Sv C W ta fa) (hr : Sa C W tr fr) : Sa C W (tCons ta tr) (mCons fa fr) := by
  intro F0 H0 L s σ F H Q g h
  refine ha _ _ _ _ _ _ _ _ g (po_imp (po_bind h) fun a s1 F1 H1 g1 e1 h1 v rv => ?_)
  refine hr _ _ _ _ _ _ _ _ g1 (po_imp (po_bind h1) fun b s2 F2 H2 g2 e2 h2 w rw' => ?_)
  exact po_ret h2 g2 _ (.cons (rv.mono e2) rw')
def mTup (fr : M T (List D)) : M T D := mBind fr fun xs => mLift (if xs.length ≤ 1000000 then some (.tuple xs) else none)
theorem sz_ok {n : Nat} (h : n ≤ 1000000) : n ≤ sizeLine := Nat.le_trans h (by rw [sizeLine_eq]; decide)
theorem sz_lt {n : Nat} (h : n ≤ 1000000) : n < sizeLine := Nat.lt_of_le_of_lt h (by rw [sizeLine_eq]; decide)
theorem sv_tup (h : Sa C W tr fr) : Sv C W (tTup tr) (mTup fr) := by
  intro F0 H0 L s σ F H Q g q
  refine h _ _ _ _ _ _ _ _ g (po_imp (po_bind q) fun a s1 F1 H1 g1 e1 h1 vs rv => ?_)
  unfold mLift at h1
  by_cases hl : a.length ≤ 1000000
  · rw [if_pos hl] at h1
    refine ⟨by rw [rv.length]; exact sz_ok hl, fun p hp => ?_⟩
    exact h1 _ _ (g1.allocF hp) (Same.updN (g1.sub.nn hp)) _ (.tup (.inl (.inl upd_same)) (rv.mono (Same.updN (g1.sub.nn hp))))
  · rw [if_neg hl] at h1
    exact h1.elim
/-- a display of a list: a new object -/
def mLst (fr : M T (List D)) : M T Slot := mBind fr fun xs => mLift (if xs.length ≤ 1000000 then some (.ol xs) else none)
theorem se_lst (h : Sa C W tr fr) : Se C W (tLst tr) (mLst fr) := by
  intro F0 H0 L s σ F H Q g q
  refine h _ _ _ _ _ _ _ _ g (po_imp (po_bind q) fun a s1 F1 H1 g1 e1 h1 vs rv => ?_)
  unfold mLift at h1
  by_cases hl : a.length ≤ 1000000
  · rw [if_pos hl] at h1
    refine ⟨by rw [rv.length]; exact sz_ok hl, fun p hp => ?_⟩
    exact h1 _ _ (g1.alloc hp) (Same.refl _) _ ⟨p, vs, rfl, Tmp.fresh g1 hp, upd_same, rv⟩
  · rw [if_neg hl] at h1
    exact h1.elim
/-- a slot's content is frozen -/
def frz : Slot → Option D
  | .fz d => some d
  | .ol xs => some (.list xs)
  | .od kvs => some (.dict kvs)
  | _ => none
def mFrz (f : M T Slot) : M T D := mBind f fun x => mLift (frz x)
theorem sv_frz {f : M T Slot} (h : Se C W ta f) : Sv C W ta (mFrz f) := by
  intro F0 H0 L s σ F H Q g q
  refine h _ _ _ _ _ _ _ _ g (po_imp (po_bind q) fun x s1 F1 H1 g1 e1 h1 v rv => ?_)
  unfold mLift at h1
  cases x with
  | un => exact h1.elim
  | pt n => exact h1.elim
  | bw n => exact h1.elim
  | fz d => exact h1 F1 H1 g1 (Same.refl _) v rv
  | ol xs =>
    obtain ⟨p, vs, rfl, t, hp, r⟩ := rv
    have e := Same.updN (o := HO.lst vs) t.f
    exact h1 _ H1 (g1.freeze t hp) e _ (.lst upd_same (r.mono e))
  | od xs =>
    obtain ⟨p, vs, rfl, t, hp, r⟩ := rv
    have e := Same.updN (o := HO.dK vs) t.f
    exact h1 _ H1 (g1.freeze t hp) e _ (.dic upd_same (r.mono e))
def mFz (f : M T D) : M T Slot := mBind f fun d => mRet (.fz d)
theorem se_fz {f : M T D} (h : Sv C W ta f) : Se C W ta (mFz f) := by
  intro F0 H0 L s σ F H Q g q
  exact h _ _ _ _ _ _ _ _ g (po_imp (po_bind q) fun x s1 F1 H1 g1 e1 h1 v rv => po_ret h1 g1 v rv)
theorem se_ifE {f f' : M T Slot} (hc : Stt C W t ft) (ha : Se C W ta f) (hb : Se C W tb f') : Se C W (tIf t ta tb) (mIf ft f f') := by
  intro F0 H0 L s σ F H Q g q
  refine hc _ _ _ _ _ _ _ _ g (po_imp (po_bind q) fun a s1 F1 H1 g1 e1 h1 => ?_)
  cases a with
  | true => exact iteT (ha _ _ _ _ _ _ _ _ g1 h1)
  | false => exact iteF (hb _ _ _ _ _ _ _ _ g1 h1)
end
end Pm

set_option Elab.async false
set_option linter.all false
set_option maxRecDepth 100000
/-! Operations by values. -/
namespace Pm
open PySem L2

/-! ### small helpers: lists of numbers -/
def dInts : List D → Option (List Int)
  | [] => some []
  | .int i :: r => (dInts r).map (i :: ·)
  | _ :: _ => none
def dBools : List D → Option (List Bool)
  | [] => some []
  | .bool i :: r => (dBools r).map (i :: ·)
  | _ :: _ => none
def dStrs : List D → Option (List Str)
  | [] => some []
  | .str i :: r => (dStrs r).map (i :: ·)
  | _ :: _ => none
def flatD : D → Bool
  | .none => true
  | .bool _ => true
  | .int _ => true
  | .str _ => true
  | _ => false
def toV : D → V
  | .none => .non
  | .bool b => .bl b
  | .int i => .int i
  | .str x => .str x
  | _ => .byt #[]
section
variable {K : PySem.W.Frag} {F : Hp}
theorem rep_ints : ∀ {xs : List V} {ds : List D} {ns : List Int}, RepL K F xs ds → dInts ds = some ns → xs = ns.map V.int
  | _, _, _, .nil, h => by cases h; rfl
  | _, _, ns, .cons (v := v) (vs := vs) (d := d) (ds := ds) r t, h => by
    cases r with
    | int i =>
      unfold dInts at h
      cases q : dInts ds with
      | none => rw [q] at h; cases h
      | some r' => rw [q] at h; cases h; rw [rep_ints t q]; rfl
    | _ => cases h
theorem rep_bools : ∀ {xs : List V} {ds : List D} {ns : List Bool}, RepL K F xs ds → dBools ds = some ns → xs = ns.map V.bl
  | _, _, _, .nil, h => by cases h; rfl
  | _, _, ns, .cons (v := v) (vs := vs) (d := d) (ds := ds) r t, h => by
    cases r with
    | bl i =>
      unfold dBools at h
      cases q : dBools ds with
      | none => rw [q] at h; cases h
      | some r' => rw [q] at h; cases h; rw [rep_bools t q]; rfl
    | _ => cases h
theorem rep_strs : ∀ {xs : List V} {ds : List D} {ns : List Str}, RepL K F xs ds → dStrs ds = some ns → xs = ns.map V.str
  | _, _, _, .nil, h => by cases h; rfl
  | _, _, ns, .cons (v := v) (vs := vs) (d := d) (ds := ds) r t, h => by
    cases r with
    | str i =>
      unfold dStrs at h
      cases q : dStrs ds with
      | none => rw [q] at h; cases h
      | some r' => rw [q] at h; cases h; rw [rep_strs t q]; rfl
    | _ => cases h
theorem repl_ints : ∀ (ns : List Int), RepL K F (ns.map V.int) (ns.map PyData.int)
  | [] => .nil
  | i :: r => .cons (.int i) (repl_ints r)
theorem repl_strs : ∀ (ns : List Str), RepL K F (ns.map V.str) (ns.map PyData.str)
  | [] => .nil
  | i :: r => .cons (.str i) (repl_strs r)
theorem rep_flat {v : V} {d : D} (r : Rep K F v d) (h : flatD d = true) : v = toV d ∧ flatV v = true := by
  cases r with
  | non => exact ⟨rfl, rfl⟩
  | bl b => exact ⟨rfl, rfl⟩
  | int b => exact ⟨rfl, rfl⟩
  | str b => exact ⟨rfl, rfl⟩
  | _ => cases h
theorem rep_flats : ∀ {xs : List V} {ds : List D}, RepL K F xs ds → ds.all flatD = true → xs = ds.map toV ∧ xs.all flatV = true
  | _, _, .nil, _ => ⟨rfl, rfl⟩
  | _, _, .cons r t, h => by
    rw [List.all_cons, Bool.and_eq_true] at h
    obtain ⟨h1, h2⟩ := rep_flat r h.1
    obtain ⟨h3, h4⟩ := rep_flats t h.2
    exact ⟨by rw [h1, h3]; rfl, by rw [List.all_cons, h2, h4]; rfl⟩
end
mutual
theorem Rep.dp {K : PySem.W.Frag} {F H : Hp} (u : Sub F H) : ∀ {v : V} {d : D}, Rep K F v d → PyData.canLay0 d = true → Dp K H v d
  | _, _, .non, _ => .non
  | _, _, .bl b, _ => .bl b
  | _, _, .int i, _ => .int i
  | _, _, .str x, _ => .str x
  | _, _, .lst h r, c => .lst (SqL.of (u.lst h)) (RepL.dp u r (by unfold PyData.canLay0 at c; exact c))
  | _, _, .tup h r, c => .tup (u.tup h) (RepL.dp u r (by unfold PyData.canLay0 at c; exact c))
  | _, _, .dic h r, c => by unfold PyData.canLay0 at c; cases c
theorem RepL.dp {K : PySem.W.Frag} {F H : Hp} (u : Sub F H) : ∀ {v : List V} {d : List D}, RepL K F v d → PyData.canLayAll0 d = true → DpAll K H v d
  | _, _, .nil, _ => .nil
  | _, _, .cons h r, c => by
    unfold PyData.canLayAll0 at c
    rw [Bool.and_eq_true] at c
    exact .cons (Rep.dp u h c.1) (RepL.dp u r c.2)
end

/-! ### the operations -/
def mulOk (i j : Int) : Bool := decide (i.natAbs.log2 + j.natAbs.log2 < 1000000)
def divOk (j : Int) : Bool := decide (0 < j ∧ j.natAbs.log2 < 9000)
def powOk (i j : Int) : Bool := decide (0 ≤ j ∧ j ≤ 1000000 ∧ i.natAbs < 2 ^ 64)
theorem mulOk.ok {i j : Int} (h : mulOk i j = true) : CMulW i j := of_decide_eq_true (p := i.natAbs.log2 + j.natAbs.log2 < 1000000) h
theorem divOk.ok {i j : Int} (h : divOk j = true) : CDivW i j := of_decide_eq_true (p := 0 < j ∧ j.natAbs.log2 < 9000) h
theorem powOk.ok {i j : Int} (h : powOk i j = true) : CPow i j := of_decide_eq_true (p := 0 ≤ j ∧ j ≤ 1000000 ∧ i.natAbs < 2 ^ 64) h
def lim : Nat := 1000000
def opAdd : D → D → Option D
  | .int i, .int j => some (.int (i + j))
  | .str a, .str b => if a.length + b.length ≤ lim then some (.str (a ++ b)) else none
  | .tuple [], .tuple _ => none
  | .tuple (x :: xs), .tuple ys => if xs.length + 1 + ys.length ≤ lim then some (.tuple (x :: xs ++ ys)) else none
  | .list xs, .list ys => if xs.length + ys.length ≤ lim then some (.list (xs ++ ys)) else none
  | _, _ => none
def opSub : D → D → Option D
  | .int i, .int j => some (.int (i - j))
  | _, _ => none
def opMul : D → D → Option D
  | .int i, .int j => if mulOk i j = true then some (.int (i * j)) else none
  | .list ds, .int k => if 0 ≤ k ∧ k ≤ 1000 ∧ ds.length ≤ 1000 then some (.list (List.replicate k.toNat ds).flatten) else none
  | _, _ => none
def opDiv : D → D → Option D
  | .int i, .int j => if divOk j then some (.int (i / j)) else none
  | _, _ => none
def opMod : D → D → Option D
  | .int i, .int j => if 0 < j then some (.int (i % j)) else none
  | _, _ => none
def opPow : D → D → Option D
  | .int i, .int j => if powOk i j then some (.int (i ^ j.toNat)) else none
  | _, _ => none
def opNeg : D → Option D
  | .int i => some (.int (-i))
  | _ => none
def opEq (a b : D) : Option D := if SeqAt.shaped a && SeqAt.shaped b then some (.bool (PyData.eqv a b)) else none
def opNe (a b : D) : Option D := if SeqAt.shaped a && SeqAt.shaped b then some (.bool (!PyData.eqv a b)) else none
def opLt : D → D → Option D
  | .int i, .int j => some (.bool (decide (i < j)))
  | .str a, .str b => some (.bool (decide (a.cps.toList < b.cps.toList)))
  | _, _ => none
def opLe : D → D → Option D
  | .int i, .int j => some (.bool (decide (i ≤ j)))
  | _, _ => none
def opGt : D → D → Option D
  | .int i, .int j => some (.bool (decide (j < i)))
  | _, _ => none
def opGe : D → D → Option D
  | .int i, .int j => some (.bool (decide (j ≤ i)))
  | _, _ => none
def opIs : D → D → Option D
  | .none, .none => some (.bool true)
  | _, .none => some (.bool false)
  | .bool a, .bool b => some (.bool (decide (a = b)))
  | _, _ => none
def opIsNot : D → D → Option D
  | .none, .none => some (.bool false)
  | _, .none => some (.bool true)
  | .bool a, .bool b => some (.bool (!decide (a = b)))
  | _, _ => none
def inSeq (x : D) (ds : List D) : Option Bool := if flatD x && ds.all flatD then some (inV (toV x) (ds.map toV)) else none
def opIn0 : D → D → Option D
  | x, .tuple ds => (inSeq x ds).map .bool
  | x, .list ds => (inSeq x ds).map .bool
  | .str x, .str y => some (.bool (!(Builtin.Str.occurrences y x 0 y.length 1).isEmpty))
  | _, _ => none
def opNotIn0 : D → D → Option D
  | x, .tuple ds => (inSeq x ds).map fun b => .bool (!b)
  | x, .list ds => (inSeq x ds).map fun b => .bool (!b)
  | .str x, .str y => some (.bool (!(!(Builtin.Str.occurrences y x 0 y.length 1).isEmpty)))
  | _, _ => none
def opIx0 : D → D → Option D
  | .tuple xs, .int i => atI xs i
  | .list xs, .int i => atI xs i
  | .str z, .int i => if z.length ≤ lim then (atI z.cps.toList i).map fun c => .str ⟨#[c]⟩ else none
  | _, _ => none

section
variable {T : Type} {C : Ct T} {X : Cx}
/-- the common end: the answer is a scalar, the heap as it was -/
theorem rv_end {T : Type} {C : Ct T} {F0 H0 F H : Hp} {L : Nat → Option Addr} {s : S T} {σ : L2.St} {Q : VK} {d : D} {v : V} (g : Good C F0 H0 L s σ F H) (h : ∀ v F' H', Good C F0 H0 L s σ F' H' → Same F F' → Rep C.K F' v d → Q v H') (r : Rep C.K F v d) : Q v H := h v F H g (Same.refl F) r
theorem OpR.or {f : Value → Value → Sem Value} {r r' : R2} (h : OpR X f r) (h' : OpR X f r') : OpR X f (fun x y H Q => r x y H Q ∨ r' x y H Q) := fun pins s σ H x y v u Q I rx ry q => q.elim (h pins s σ H x y v u Q I rx ry) (h' pins s σ H x y v u Q I rx ry)
abbrev rOr (r r' : R2) : R2 := fun x y H Q => r x y H Q ∨ r' x y H Q
abbrev rAddS : R2 := fun x y H Q => ∃ i j, x = .str i ∧ y = .str j ∧ i.length + j.length ≤ sizeLine ∧ Q (.str (i ++ j)) H
abbrev rAddA (K : PySem.W.Frag) : R2 := rOr (rI0 fun i j => .int (i + j)) (rOr rAddS (rOr (rCatT K) rCat))
theorem or_add : OpR X (binaryOp .Add) (rAddA X.K) := op_add.or (op_add_str.or (op_catT.or op_cat))
theorem lim_ok {n : Nat} (h : n ≤ lim) : n ≤ sizeLine := sz_ok h
theorem rv_add : Rv C (rAddA C.K) opAdd := by
  intro F0 H0 L s σ F H x y a b Q g rx ry h
  cases rx with
  | int i =>
    cases ry with
    | int j => exact .inl ⟨i, j, rfl, rfl, rv_end g h (.int _)⟩
    | _ => exact h.elim
  | str i =>
    cases ry with
    | str j =>
      dsimp only [opAdd] at h
      by_cases hl : i.length + j.length ≤ lim
      · rw [if_pos hl] at h
        exact .inr (.inl ⟨i, j, rfl, rfl, lim_ok hl, rv_end g h (.str _)⟩)
      · rw [if_neg hl] at h; exact h.elim
    | _ => exact h.elim
  | tup hx rx =>
    cases ry with
    | tup hy ry =>
      cases rx with
      | nil => exact h.elim
      | cons rx1 rx2 =>
        dsimp only [opAdd] at h
        rename_i xs b' ys d' v vs d ds
        by_cases hl : ds.length + 1 + d'.length ≤ lim
        · rw [if_pos hl] at h
          refine .inr (.inr (.inl ⟨_, _, _, _, rfl, rfl, g.sub.tup hx, g.sub.tup hy, by simp, ?_, fun e => ?_, fun e p hp => ?_⟩))
          · have e1 := rx2.length
            have e2 := ry.length
            simp only [List.length_cons]
            exact lim_ok (by omega)
          · subst e
            cases ry
            rw [List.append_nil] at h
            exact rv_end g h (.tup hx (.cons rx1 rx2))
          · have e1 := Same.updN (o := HO.tup ((v :: vs) ++ ys)) (g.sub.nn hp)
            exact h _ _ _ (g.allocF hp) e1 (.tup (.inl (.inl upd_same)) (((RepL.cons rx1 rx2).append ry).mono e1))
        · rw [if_neg hl] at h; exact h.elim
    | _ => cases rx <;> exact h.elim
  | lst hx rx =>
    cases ry with
    | lst hy ry =>
      dsimp only [opAdd] at h
      rename_i a1 xs ds a2 ys ds'
      by_cases hl : ds.length + ds'.length ≤ lim
      · rw [if_pos hl] at h
        have e1 := rx.length
        have e2 := ry.length
        refine .inr (.inr (.inr ⟨_, _, _, _, rfl, rfl, g.sub.lst hx, g.sub.lst hy, lim_ok (by omega), fun p hp => ?_⟩))
        have e1 := Same.updN (o := HO.lst (xs ++ ys)) (g.sub.nn hp)
        exact h _ _ _ (g.allocF hp) e1 (.lst upd_same ((rx.append ry).mono e1))
      · rw [if_neg hl] at h; exact h.elim
    | _ => exact h.elim
  | _ => exact h.elim
theorem rv_sub : Rv C (rI0 fun i j => .int (i - j)) opSub := by
  intro F0 H0 L s σ F H x y a b Q g rx ry h
  cases rx with
  | int i =>
    cases ry with
    | int j => exact ⟨i, j, rfl, rfl, rv_end g h (.int _)⟩
    | _ => exact h.elim
  | _ => exact h.elim
theorem RepL.repl {K : PySem.W.Frag} {F : Hp} {vs : List V} {ds : List D} (r : RepL K F vs ds) : ∀ n : Nat, RepL K F (List.replicate n vs).flatten (List.replicate n ds).flatten
  | 0 => .nil
  | n + 1 => by
    rw [List.replicate_succ, List.replicate_succ, List.flatten_cons, List.flatten_cons]
    exact r.append (r.repl n)
theorem rv_mul : Rv C (rOr (rI CMulW fun i j => .int (i * j)) rRep) opMul := by
  intro F0 H0 L s σ F H x y a b Q g rx ry h
  cases rx with
  | int i =>
    cases ry with
    | int j =>
      dsimp only [opMul] at h
      by_cases hl : mulOk i j = true
      · rw [if_pos hl] at h
        exact .inl ⟨i, j, rfl, rfl, mulOk.ok hl, rv_end g h (.int _)⟩
      · rw [if_neg hl] at h; exact h.elim
    | _ => exact h.elim
  | lst hx r =>
    rename_i p xs ds
    cases ry with
    | int k =>
      dsimp only [opMul] at h
      by_cases hl : 0 ≤ k ∧ k ≤ 1000 ∧ ds.length ≤ 1000
      · rw [if_pos hl] at h
        refine .inr ⟨p, k, xs, rfl, rfl, g.sub.lst hx, by omega, by omega, ?_, fun l hl2 => ?_⟩
        · rw [r.length]
          have h1 : k.toNat ≤ 1000 := by omega
          have h2 : ds.length * k.toNat ≤ 1000 * 1000 := Nat.mul_le_mul hl.2.2 h1
          exact Nat.le_trans h2 (by rw [sizeLine_eq]; decide)
        · have e1 := Same.updN (o := HO.lst (List.replicate k.toNat xs).flatten) (g.sub.nn hl2)
          exact h _ _ _ (g.allocF hl2) e1 (.lst upd_same ((r.mono e1).repl k.toNat))
      · rw [if_neg hl] at h; exact h.elim
    | _ => exact h.elim
  | _ => exact h.elim
theorem rv_div : Rv C (rI CDivW fun i j => .int (i / j)) opDiv := by
  intro F0 H0 L s σ F H x y a b Q g rx ry h
  cases rx with
  | int i =>
    cases ry with
    | int j =>
      dsimp only [opDiv] at h
      by_cases hl : divOk j = true
      · rw [if_pos hl] at h
        exact ⟨i, j, rfl, rfl, divOk.ok hl, rv_end g h (.int _)⟩
      · rw [if_neg hl] at h; exact h.elim
    | _ => exact h.elim
  | _ => exact h.elim
theorem rv_mod : Rv C (rI (fun _ j => 0 < j) fun i j => .int (i % j)) opMod := by
  intro F0 H0 L s σ F H x y a b Q g rx ry h
  cases rx with
  | int i =>
    cases ry with
    | int j =>
      dsimp only [opMod] at h
      by_cases hl : 0 < j
      · rw [if_pos hl] at h
        exact ⟨i, j, rfl, rfl, hl, rv_end g h (.int _)⟩
      · rw [if_neg hl] at h; exact h.elim
    | _ => exact h.elim
  | _ => exact h.elim
theorem rv_pow : Rv C (rI CPow fun i j => .int (i ^ j.toNat)) opPow := by
  intro F0 H0 L s σ F H x y a b Q g rx ry h
  cases rx with
  | int i =>
    cases ry with
    | int j =>
      dsimp only [opPow] at h
      by_cases hl : powOk i j = true
      · rw [if_pos hl] at h
        exact ⟨i, j, rfl, rfl, powOk.ok hl, rv_end g h (.int _)⟩
      · rw [if_neg hl] at h; exact h.elim
    | _ => exact h.elim
  | _ => exact h.elim
theorem ru_neg' : Ru C (rU fun i => .int (-i)) opNeg := by
  intro F0 H0 L s σ F H x a Q g rx h
  cases rx with
  | int i => exact ⟨i, rfl, rv_end g h (.int _)⟩
  | _ => exact h.elim
theorem rv_eq : Rv C (rEqD C.K) opEq := by
  intro F0 H0 L s σ F H x y a b Q g rx ry h
  dsimp only [opEq] at h
  by_cases hl : (SeqAt.shaped a && SeqAt.shaped b) = true
  · rw [if_pos hl] at h
    rw [Bool.and_eq_true] at hl
    exact ⟨a, b, rx.dp g.sub (SeqAt.canLay_of_shaped hl.1), ry.dp g.sub (SeqAt.canLay_of_shaped hl.2), hl.1, hl.2, rv_end g h (.bl _)⟩
  · rw [if_neg hl] at h; exact h.elim
theorem rv_ne : Rv C (rNeD C.K) opNe := by
  intro F0 H0 L s σ F H x y a b Q g rx ry h
  dsimp only [opNe] at h
  by_cases hl : (SeqAt.shaped a && SeqAt.shaped b) = true
  · rw [if_pos hl] at h
    rw [Bool.and_eq_true] at hl
    exact ⟨a, b, rx.dp g.sub (SeqAt.canLay_of_shaped hl.1), ry.dp g.sub (SeqAt.canLay_of_shaped hl.2), hl.1, hl.2, rv_end g h (.bl _)⟩
  · rw [if_neg hl] at h; exact h.elim
abbrev rLtS : R2 := fun x y H Q => ∃ i j, x = .str i ∧ y = .str j ∧ Q (.bl (decide (i.cps.toList < j.cps.toList))) H
abbrev rLtA : R2 := rOr (rI0 fun i j => .bl (decide (i < j))) rLtS
theorem or_lt : OpR X (compareOp .Lt) rLtA := op_lt.or op_lt_str
theorem rv_lt : Rv C rLtA opLt := by
  intro F0 H0 L s σ F H x y a b Q g rx ry h
  cases rx with
  | int i =>
    cases ry with
    | int j => exact .inl ⟨i, j, rfl, rfl, rv_end g h (.bl _)⟩
    | _ => exact h.elim
  | str i =>
    cases ry with
    | str j => exact .inr ⟨i, j, rfl, rfl, rv_end g h (.bl _)⟩
    | _ => exact h.elim
  | _ => exact h.elim
theorem rv_le : Rv C (rI0 fun i j => .bl (decide (i ≤ j))) opLe := by
  intro F0 H0 L s σ F H x y a b Q g rx ry h
  cases rx with
  | int i =>
    cases ry with
    | int j => exact ⟨i, j, rfl, rfl, rv_end g h (.bl _)⟩
    | _ => exact h.elim
  | _ => exact h.elim
theorem rv_gt : Rv C (rI0 fun i j => .bl (decide (j < i))) opGt := by
  intro F0 H0 L s σ F H x y a b Q g rx ry h
  cases rx with
  | int i =>
    cases ry with
    | int j => exact ⟨i, j, rfl, rfl, rv_end g h (.bl _)⟩
    | _ => exact h.elim
  | _ => exact h.elim
theorem rv_ge : Rv C (rI0 fun i j => .bl (decide (j ≤ i))) opGe := by
  intro F0 H0 L s σ F H x y a b Q g rx ry h
  cases rx with
  | int i =>
    cases ry with
    | int j => exact ⟨i, j, rfl, rfl, rv_end g h (.bl _)⟩
    | _ => exact h.elim
  | _ => exact h.elim
abbrev rIsN : R2 := fun x y H Q => y = .non ∧ Q (.bl (decide (x = .non))) H
abbrev rNotN : R2 := fun x y H Q => y = .non ∧ Q (.bl (!decide (x = .non))) H
abbrev rIsA : R2 := rOr rIsN rIsB
abbrev rIsNotA : R2 := rOr rNotN rNotB
theorem or_is : OpR X (compareOp .Is) rIsA := op_isN.or op_isBl
theorem or_isnot : OpR X (compareOp .IsNot) rIsNotA := op_notN.or op_notBl
theorem rv_is : Rv C rIsA opIs := by
  intro F0 H0 L s σ F H x y a b Q g rx ry h
  cases ry with
  | non =>
    refine .inl ⟨rfl, ?_⟩
    cases rx with
    | non => exact rv_end g h (.bl _)
    | _ => exact rv_end g h (.bl _)
  | bl j =>
    cases rx with
    | bl i => exact .inr ⟨i, j, rfl, rfl, rv_end g h (.bl _)⟩
    | _ => exact h.elim
  | _ => cases rx <;> exact h.elim
theorem rv_isnot : Rv C rIsNotA opIsNot := by
  intro F0 H0 L s σ F H x y a b Q g rx ry h
  cases ry with
  | non =>
    refine .inl ⟨rfl, ?_⟩
    cases rx with
    | non => exact rv_end g h (.bl _)
    | _ => exact rv_end g h (.bl _)
  | bl j =>
    cases rx with
    | bl i => exact .inr ⟨i, j, rfl, rfl, rv_end g h (.bl _)⟩
    | _ => exact h.elim
  | _ => cases rx <;> exact h.elim
abbrev rInS : R2 := fun x y H Q => ∃ i j, x = .str i ∧ y = .str j ∧ Q (.bl (!(Builtin.Str.occurrences j i 0 j.length 1).isEmpty)) H
abbrev rNotInS : R2 := fun x y H Q => ∃ i j, x = .str i ∧ y = .str j ∧ Q (.bl (!(!(Builtin.Str.occurrences j i 0 j.length 1).isEmpty))) H
abbrev rInA (K : PySem.W.Frag) : R2 := rOr (rIn K false) rInS
abbrev rNotInA (K : PySem.W.Frag) : R2 := rOr (rIn K true) rNotInS
theorem or_in : OpR X (compareOp .In) (rInA X.K) := op_in_seq.or op_in_str
theorem or_notin : OpR X (compareOp .NotIn) (rNotInA X.K) := op_notIn_seq.or op_notin_str
theorem rv_in0 : Rv C (rInA C.K) opIn0 := by
  intro F0 H0 L s σ F H x y a b Q g rx ry h
  cases ry with
  | tup hy ry =>
    rename_i p ys ds
    have h' : (match (inSeq a ds).map PyData.bool with
      | some d => ∀ v F' H', Good C F0 H0 L s σ F' H' → Same F F' → Rep C.K F' v d → Q v H'
      | none => False) := by cases a <;> exact h
    unfold inSeq at h'
    by_cases hl : (flatD a && ds.all flatD) = true
    · rw [if_pos hl] at h'
      rw [Bool.and_eq_true] at hl
      obtain ⟨e1, f1⟩ := rep_flat rx hl.1
      obtain ⟨e2, f2⟩ := rep_flats ry hl.2
      refine .inl ⟨p, ys, rfl, .inr (g.sub.tup hy), f1, f2, ?_⟩
      rw [e1, e2]
      exact rv_end g h' (.bl _)
    · rw [if_neg hl] at h'; exact h'.elim
  | lst hy ry =>
    rename_i p ys ds
    have h' : (match (inSeq a ds).map PyData.bool with
      | some d => ∀ v F' H', Good C F0 H0 L s σ F' H' → Same F F' → Rep C.K F' v d → Q v H'
      | none => False) := by cases a <;> exact h
    unfold inSeq at h'
    by_cases hl : (flatD a && ds.all flatD) = true
    · rw [if_pos hl] at h'
      rw [Bool.and_eq_true] at hl
      obtain ⟨e1, f1⟩ := rep_flat rx hl.1
      obtain ⟨e2, f2⟩ := rep_flats ry hl.2
      refine .inl ⟨p, ys, rfl, .inl (SqL.of (g.sub.lst hy)), f1, f2, ?_⟩
      rw [e1, e2]
      exact rv_end g h' (.bl _)
    · rw [if_neg hl] at h'; exact h'.elim
  | str j =>
    cases rx with
    | str i => exact .inr ⟨i, j, rfl, rfl, rv_end g h (.bl _)⟩
    | _ => exact h.elim
  | _ => cases rx <;> exact h.elim
theorem rv_notin0 : Rv C (rNotInA C.K) opNotIn0 := by
  intro F0 H0 L s σ F H x y a b Q g rx ry h
  cases ry with
  | tup hy ry =>
    rename_i p ys ds
    have h' : (match (inSeq a ds).map (fun b => PyData.bool (!b)) with
      | some d => ∀ v F' H', Good C F0 H0 L s σ F' H' → Same F F' → Rep C.K F' v d → Q v H'
      | none => False) := by cases a <;> exact h
    unfold inSeq at h'
    by_cases hl : (flatD a && ds.all flatD) = true
    · rw [if_pos hl] at h'
      rw [Bool.and_eq_true] at hl
      obtain ⟨e1, f1⟩ := rep_flat rx hl.1
      obtain ⟨e2, f2⟩ := rep_flats ry hl.2
      refine .inl ⟨p, ys, rfl, .inr (g.sub.tup hy), f1, f2, ?_⟩
      rw [e1, e2]
      exact rv_end g h' (.bl _)
    · rw [if_neg hl] at h'; exact h'.elim
  | lst hy ry =>
    rename_i p ys ds
    have h' : (match (inSeq a ds).map (fun b => PyData.bool (!b)) with
      | some d => ∀ v F' H', Good C F0 H0 L s σ F' H' → Same F F' → Rep C.K F' v d → Q v H'
      | none => False) := by cases a <;> exact h
    unfold inSeq at h'
    by_cases hl : (flatD a && ds.all flatD) = true
    · rw [if_pos hl] at h'
      rw [Bool.and_eq_true] at hl
      obtain ⟨e1, f1⟩ := rep_flat rx hl.1
      obtain ⟨e2, f2⟩ := rep_flats ry hl.2
      refine .inl ⟨p, ys, rfl, .inl (SqL.of (g.sub.lst hy)), f1, f2, ?_⟩
      rw [e1, e2]
      exact rv_end g h' (.bl _)
    · rw [if_neg hl] at h'; exact h'.elim
  | str j =>
    cases rx with
    | str i => exact .inr ⟨i, j, rfl, rfl, rv_end g h (.bl _)⟩
    | _ => exact h.elim
  | _ => cases rx <;> exact h.elim
theorem ixN_lt {n : Nat} {i : Int} {j : Nat} (h : ixN n i = some j) : j < n := by
  unfold ixN at h
  split at h
  · split at h
    · cases h; omega
    · cases h
  · split at h
    · cases h; omega
    · cases h
theorem atI_rep {K : PySem.W.Frag} {F : Hp} {xs : List V} {ds : List D} {i : Int} {d : D} (r : RepL K F xs ds) (h : atI ds i = some d) : ∃ v, atI xs i = some v ∧ Rep K F v d := by
  unfold atI at h ⊢
  rw [r.length]
  cases q : ixN ds.length i with
  | none => rw [q] at h; cases h
  | some j =>
    rw [q] at h
    exact r.get h
theorem rv_ix0 : Rv C (rIx C.K) opIx0 := by
  intro F0 H0 L s σ F H x y a b Q g rx ry h
  cases ry with
  | int i =>
    cases rx with
    | tup hx rx =>
      rename_i p xs ds
      have h' : (match atI ds i with
        | some d => ∀ v F' H', Good C F0 H0 L s σ F' H' → Same F F' → Rep C.K F' v d → Q v H'
        | none => False) := h
      cases q : atI ds i with
      | none => rw [q] at h'; exact h'.elim
      | some d =>
        rw [q] at h'
        obtain ⟨v, hv, rv⟩ := atI_rep rx q
        exact .inr (.inl ⟨p, xs, i, v, rfl, rfl, g.sub.tup hx, hv, rv_end g h' rv⟩)
    | lst hx rx =>
      rename_i p xs ds
      have h' : (match atI ds i with
        | some d => ∀ v F' H', Good C F0 H0 L s σ F' H' → Same F F' → Rep C.K F' v d → Q v H'
        | none => False) := h
      cases q : atI ds i with
      | none => rw [q] at h'; exact h'.elim
      | some d =>
        rw [q] at h'
        obtain ⟨v, hv, rv⟩ := atI_rep rx q
        exact .inl ⟨p, xs, i, v, rfl, rfl, SqL.of (g.sub.lst hx), hv, rv_end g h' rv⟩
    | str z =>
      dsimp only [opIx0] at h
      by_cases hl : z.length ≤ lim
      · rw [if_pos hl] at h
        cases q : atI z.cps.toList i with
        | none => rw [q] at h; exact h.elim
        | some c =>
          rw [q] at h
          exact .inr (.inr ⟨z, i, c, rfl, rfl, lim_ok hl, q, rv_end g h (.str _)⟩)
      · rw [if_neg hl] at h; exact h.elim
    | _ => exact h.elim
  | _ => cases rx <;> exact h.elim

/-! ### dicts -/
end
def eqK : D → Key → Bool
  | .int i, .inl j => decide (i = j)
  | .str x, .inr y => decide (x = y)
  | _, _ => false
def keyOf : D → Option Key
  | .int i => some (.inl i)
  | .str x => some (.inr x)
  | _ => none
def valD : List (D × D) → Key → Option D
  | [], _ => none
  | (d, x) :: r, k => if eqK d k then some x else valD r k
def hasD (kvs : List (D × D)) (k : Key) : Bool := kvs.any fun p => eqK p.1 k
def putD (kvs : List (D × D)) (k : Key) (v : D) : List (D × D) := if hasD kvs k then kvs.map (fun p => if eqK p.1 k then (p.1, v) else p) else kvs ++ [(kD k, v)]
theorem eqK_kD (a b : Key) : eqK (kD a) b = decide (a = b) := by
  cases a <;> cases b <;> simp [eqK, kD]
theorem keyOf_rep {K : PySem.W.Frag} {F : Hp} {v : V} {d : D} {k : Key} (r : Rep K F v d) (h : keyOf d = some k) : v = kV k ∧ d = kD k := by
  cases r <;> cases h <;> exact ⟨rfl, rfl⟩
section
variable {K : PySem.W.Frag} {F H : Hp}
theorem RepKV.val : ∀ {ks : List (Key × V)} {ds : List (D × D)}, RepKV K F ks ds → ∀ k : Key, (valD ds k = none ∧ valV ks k = none) ∨ ∃ d v, valD ds k = some d ∧ valV ks k = some v ∧ Rep K F v d
  | _, _, .nil, k => .inl ⟨rfl, rfl⟩
  | _, _, .cons (k := k') (v := v) (d := d) (ks := ks) (ds := ds) h r, k => by
    by_cases e : k' = k
    · refine .inr ⟨d, v, ?_, ?_, h⟩
      · simp [valD, eqK_kD, e]
      · exact valV_pos (p := (k', v)) e
    · rw [show valD ((kD k', d) :: ds) k = valD ds k by simp [valD, eqK_kD, e], valV_neg (p := (k', v)) e]
      exact RepKV.val r k
theorem RepKV.length : ∀ {ks : List (Key × V)} {ds : List (D × D)}, RepKV K F ks ds → ks.length = ds.length
  | _, _, .nil => rfl
  | _, _, .cons _ r => congrArg Nat.succ r.length
theorem RepKV.any : ∀ {ks : List (Key × V)} {ds : List (D × D)}, RepKV K F ks ds → ∀ k : Key, (ks.any fun kv => decide (kv.1 = k)) = hasD ds k
  | _, _, .nil, k => rfl
  | _, _, .cons h r, k => by
    show (decide _ || _) = (eqK (kD _) k || _)
    rw [eqK_kD]
    exact congrArg _ (RepKV.any r k)
theorem RepKV.mapPut {v : V} {d : D} (h : Rep K F v d) : ∀ {ks : List (Key × V)} {ds : List (D × D)}, RepKV K F ks ds → ∀ k : Key, RepKV K F (ks.map fun kv => if kv.1 = k then (kv.1, v) else kv) (ds.map fun p => if eqK p.1 k then (p.1, d) else p)
  | _, _, .nil, k => .nil
  | _, _, .cons (k := k') (v := v') (d := d') h' r, k => by
    rw [List.map_cons, List.map_cons]
    by_cases e : k' = k
    · rw [if_pos e, if_pos (by rw [eqK_kD]; simp [e])]
      exact .cons h (RepKV.mapPut h r k)
    · rw [if_neg e, if_neg (by rw [eqK_kD]; simp [e])]
      exact .cons h' (RepKV.mapPut h r k)
theorem RepKV.snoc {k : Key} {v : V} {d : D} (h : Rep K F v d) : ∀ {ks : List (Key × V)} {ds : List (D × D)}, RepKV K F ks ds → RepKV K F (ks ++ [(k, v)]) (ds ++ [(kD k, d)])
  | _, _, .nil => .cons h .nil
  | _, _, .cons h' r => .cons h' (RepKV.snoc h r)
theorem RepKV.put {ks : List (Key × V)} {ds : List (D × D)} {k : Key} {v : V} {d : D} (r : RepKV K F ks ds) (h : Rep K F v d) : RepKV K F (putK ks k v) (putD ds k d) := by
  unfold putK putD
  rw [r.any k]
  split
  · exact r.mapPut h k
  · exact r.snoc h
end
section
variable {T : Type} {C : Ct T} {X : Cx}
abbrev rDGet : R2 := fun x y H Q => ∃ a v, x = .ref a ∧ DGet H a y (some v) ∧ Q v H
abbrev rDIn : R2 := fun y x H Q => ∃ a o, x = .ref a ∧ DGet H a y o ∧ Q (.bl o.isSome) H
abbrev rDNotIn : R2 := fun y x H Q => ∃ a o, x = .ref a ∧ DGet H a y o ∧ Q (.bl (!o.isSome)) H
open PySem.Spec PyProof.Rows in
theorem ix_dict (hu : X.A.units + 1 < cLine) : IxR X rDGet := by
  intro value slice pins s σ H x y v u Q I rx ry h hs
  obtain ⟨a, w, rfl, g, q⟩ := h
  obtain rfl : v = Value.ref a := rx
  have hT := dict_typeIs I g
  unfold subscriptTail
  refine wpAny_bind ?_
  rw [getitemInPython_of_ne hT.not_modules]
  refine wpAny_bind (wpAny_specialOf hT PySem.F.slot_dict_getitem.lookup ?_)
  have fin : wpAny (model X.prog X.w) X.A (subscripted slice false (.ref a) u) (fun r s₃ => wpAny (model X.prog X.w) X.A (letTemporaryGo value (.ref a) r >>= fun _ => pure r) (EP X pins σ Q) X.xe s₃) X.xe s := by
    rw [hs]
    exact wpAny_operating (d_getItem hu I g ry fun w' s' I' rw' => wpAny_bind (wpAny_letTemporaryGo (wpAny_pure ⟨w, H, I', rw', q⟩)))
  first
    | exact wpAny_pure (wpAny_bind fin)
    | exact wpAny_bind (wpAny_pure (wpAny_bind fin))
    | exact wpAny_bind fin
theorem op_din (hu : X.A.units + 1 < cLine) : OpR X (compareOp .In) rDIn := by
  intro pins s σ H x y v u Q I rx ry h
  obtain ⟨a, o, rfl, g, q⟩ := h
  obtain rfl : u = Value.ref a := ry
  exact d_in hu I g rx fun s' I' => ⟨.bl o.isSome, H, I', rfl, q⟩
theorem op_dnotin (hu : X.A.units + 1 < cLine) : OpR X (compareOp .NotIn) rDNotIn := by
  intro pins s σ H x y v u Q I rx ry h
  obtain ⟨a, o, rfl, g, q⟩ := h
  obtain rfl : u = Value.ref a := ry
  exact d_notIn hu I g rx fun s' I' => ⟨.bl (!o.isSome), H, I', rfl, q⟩
def opIx : D → D → Option D
  | .dict kvs, y => (keyOf y).bind (valD kvs)
  | x, y => opIx0 x y
def opIn : D → D → Option D
  | x, .dict kvs => (keyOf x).map fun k => .bool (valD kvs k).isSome
  | x, y => opIn0 x y
def opNotIn : D → D → Option D
  | x, .dict kvs => (keyOf x).map fun k => .bool (!(valD kvs k).isSome)
  | x, y => opNotIn0 x y
abbrev rIxA (K : PySem.W.Frag) : R2 := rOr (rIx K) rDGet
abbrev rInD (K : PySem.W.Frag) : R2 := rOr (rInA K) rDIn
abbrev rNotInD (K : PySem.W.Frag) : R2 := rOr (rNotInA K) rDNotIn
theorem dget_case {F0 H0 F H : Hp} {L : Nat → Option Addr} {s : S T} {σ : L2.St} {Q : VK} {p : Addr} {ks : List (Key × V)} {kvs : List (D × D)} {y : V} {b : D} (g : Good C F0 H0 L s σ F H) (hp : Rd H p (.dK ks)) (r : RepKV C.K F ks kvs) (ry : Rep C.K F y b)
    (h : match (keyOf b).bind (valD kvs) with
      | some d => ∀ v F' H', Good C F0 H0 L s σ F' H' → Same F F' → Rep C.K F' v d → Q v H'
      | none => False) : rDGet (.ref p) y H Q := by
  cases e : keyOf b with
  | none => rw [e] at h; exact h.elim
  | some k =>
    rw [e] at h
    obtain ⟨ey, _⟩ := keyOf_rep ry e
    dsimp only [Option.bind_some] at h
    rcases r.val k with ⟨e1, _⟩ | ⟨d, v, e1, e2, rv⟩
    · rw [e1] at h; exact h.elim
    · rw [e1] at h
      exact ⟨p, v, rfl, .inl ⟨ks, k, hp, ey, e2.symm⟩, rv_end g h rv⟩
theorem rv_ix : Rv C (rIxA C.K) opIx := by
  intro F0 H0 L s σ F H x y a b Q g rx ry h
  cases rx with
  | dic hx r => exact .inr (dget_case g (g.sub.dic hx) r ry h)
  | non => exact .inl (rv_ix0 _ _ _ _ _ _ _ _ _ _ _ _ g .non ry h)
  | bl z => exact .inl (rv_ix0 _ _ _ _ _ _ _ _ _ _ _ _ g (.bl z) ry h)
  | int z => exact .inl (rv_ix0 _ _ _ _ _ _ _ _ _ _ _ _ g (.int z) ry h)
  | str z => exact .inl (rv_ix0 _ _ _ _ _ _ _ _ _ _ _ _ g (.str z) ry h)
  | lst e r => exact .inl (rv_ix0 _ _ _ _ _ _ _ _ _ _ _ _ g (.lst e r) ry h)
  | tup e r => exact .inl (rv_ix0 _ _ _ _ _ _ _ _ _ _ _ _ g (.tup e r) ry h)
theorem rv_in : Rv C (rInD C.K) opIn := by
  intro F0 H0 L s σ F H x y a b Q g rx ry h
  cases ry with
  | dic hy r =>
    rename_i p ks kvs
    have h' : (match (keyOf a).map fun k => PyData.bool (valD kvs k).isSome with
      | some d => ∀ v F' H', Good C F0 H0 L s σ F' H' → Same F F' → Rep C.K F' v d → Q v H'
      | none => False) := by cases a <;> exact h
    cases e : keyOf a with
    | none => rw [e] at h'; exact h'.elim
    | some k =>
      rw [e] at h'
      obtain ⟨ey, _⟩ := keyOf_rep rx e
      refine .inr ⟨p, valV ks k, rfl, .inl ⟨ks, k, g.sub.dic hy, ey, rfl⟩, ?_⟩
      have e3 : (valV ks k).isSome = (valD kvs k).isSome := by
        rcases r.val k with ⟨e1, e2⟩ | ⟨d, v, e1, e2, rv⟩ <;> rw [e1, e2] <;> rfl
      rw [e3]
      exact rv_end g h' (.bl _)
  | non => exact .inl (rv_in0 _ _ _ _ _ _ _ _ _ _ _ _ g rx .non (by cases a <;> exact h))
  | bl z => exact .inl (rv_in0 _ _ _ _ _ _ _ _ _ _ _ _ g rx (.bl z) (by cases a <;> exact h))
  | int z => exact .inl (rv_in0 _ _ _ _ _ _ _ _ _ _ _ _ g rx (.int z) (by cases a <;> exact h))
  | str z => exact .inl (rv_in0 _ _ _ _ _ _ _ _ _ _ _ _ g rx (.str z) (by cases a <;> exact h))
  | lst e r => exact .inl (rv_in0 _ _ _ _ _ _ _ _ _ _ _ _ g rx (.lst e r) (by cases a <;> exact h))
  | tup e r => exact .inl (rv_in0 _ _ _ _ _ _ _ _ _ _ _ _ g rx (.tup e r) (by cases a <;> exact h))
theorem rv_notin : Rv C (rNotInD C.K) opNotIn := by
  intro F0 H0 L s σ F H x y a b Q g rx ry h
  cases ry with
  | dic hy r =>
    rename_i p ks kvs
    have h' : (match (keyOf a).map fun k => PyData.bool (!(valD kvs k).isSome) with
      | some d => ∀ v F' H', Good C F0 H0 L s σ F' H' → Same F F' → Rep C.K F' v d → Q v H'
      | none => False) := by cases a <;> exact h
    cases e : keyOf a with
    | none => rw [e] at h'; exact h'.elim
    | some k =>
      rw [e] at h'
      obtain ⟨ey, _⟩ := keyOf_rep rx e
      refine .inr ⟨p, valV ks k, rfl, .inl ⟨ks, k, g.sub.dic hy, ey, rfl⟩, ?_⟩
      have e3 : (valV ks k).isSome = (valD kvs k).isSome := by
        rcases r.val k with ⟨e1, e2⟩ | ⟨d, v, e1, e2, rv⟩ <;> rw [e1, e2] <;> rfl
      rw [e3]
      exact rv_end g h' (.bl _)
  | non => exact .inl (rv_notin0 _ _ _ _ _ _ _ _ _ _ _ _ g rx .non (by cases a <;> exact h))
  | bl z => exact .inl (rv_notin0 _ _ _ _ _ _ _ _ _ _ _ _ g rx (.bl z) (by cases a <;> exact h))
  | int z => exact .inl (rv_notin0 _ _ _ _ _ _ _ _ _ _ _ _ g rx (.int z) (by cases a <;> exact h))
  | str z => exact .inl (rv_notin0 _ _ _ _ _ _ _ _ _ _ _ _ g rx (.str z) (by cases a <;> exact h))
  | lst e r => exact .inl (rv_notin0 _ _ _ _ _ _ _ _ _ _ _ _ g rx (.lst e r) (by cases a <;> exact h))
  | tup e r => exact .inl (rv_notin0 _ _ _ _ _ _ _ _ _ _ _ _ g rx (.tup e r) (by cases a <;> exact h))
end
end Pm

set_option Elab.async false
set_option linter.all false
set_option maxRecDepth 100000
/-! Calls, targets, statements, loops, comprehensions. -/
namespace Pm
open PySem L2

/-! ### a peek at a slot that is not frozen -/
def Rsh (K : PySem.W.Frag) (F H : Hp) (v : V) (d : D) : Prop :=
  Rep K F v d ∨ (∃ a xs ds, v = .ref a ∧ d = .list ds ∧ H a = some (.lst xs) ∧ RepL K F xs ds) ∨ ∃ a ks ds, v = .ref a ∧ d = .dict ds ∧ H a = some (.dK ks) ∧ RepKV K F ks ds
def peek : Slot → Option D
  | .fz d => some d
  | .ol xs => some (.list xs)
  | .od kvs => some (.dict kvs)
  | .bw xs => some (.list xs)
  | _ => none
section
variable {T : Type} {C : Ct T} {W : WX} {F0 H0 F F1 H : Hp} {L : Nat → Option Addr} {s : S T} {σ : L2.St} {α β : Type}
theorem Good.peek (g : Good C F0 H0 L s σ F H) {i : Nat} {x : Slot} {d : D} (hx : s.env[i]? = some x) (hd : peek x = some d) : ∃ v, σ[i]? = some (some v) ∧ Rsh C.K F H v d := by
  have k := g.slots i x hx
  cases x with
  | un => cases hd
  | pt n => cases hd
  | fz d' =>
    cases hd
    obtain ⟨v, h1, h2⟩ := k
    exact ⟨v, h1, .inl h2⟩
  | ol xs =>
    cases hd
    obtain ⟨p, vs, h1, h2, h3, h4, h5⟩ := k
    exact ⟨_, h1, .inr (.inl ⟨p, vs, xs, rfl, rfl, h4, h5⟩)⟩
  | od xs =>
    cases hd
    obtain ⟨p, vs, h1, h2, h3, h4, h5⟩ := k
    exact ⟨_, h1, .inr (.inr ⟨p, vs, xs, rfl, rfl, h4, h5⟩)⟩
  | bw xs =>
    cases hd
    obtain ⟨q, vs, h1, h2, h3, h4, h5⟩ := k
    exact ⟨_, h2, .inr (.inl ⟨q, vs, xs, rfl, rfl, g.base _ _ h4 h3, h5⟩)⟩
/-- operations whose first operand is peeked at -/
def Rw {T : Type} (C : Ct T) (r : R2) (op : D → D → Option D) : Prop := ∀ F0 H0 L (s : S T) σ F H x y a b (Q : VK), Good C F0 H0 L s σ F H → Rsh C.K F H x a → Rep C.K F y b →
  (match op a b with
    | some d => ∀ v F' H', Good C F0 H0 L s σ F' H' → Same F F' → Rep C.K F' v d → Q v H'
    | none => False) → r x y H Q
def Rwu {T : Type} (C : Ct T) (r : V → Hp → VK → Prop) (op : D → Option D) : Prop := ∀ F0 H0 L (s : S T) σ F H x a (Q : VK), Good C F0 H0 L s σ F H → Rsh C.K F H x a →
  (match op a with
    | some d => ∀ v F' H', Good C F0 H0 L s σ F' H' → Same F F' → Rep C.K F' v d → Q v H'
    | none => False) → r x H Q
theorem Rw.rv {r : R2} {op : D → D → Option D} (h : Rw C r op) : Rv C r op := fun F0 H0 L s σ F H x y a b Q g rx ry => h F0 H0 L s σ F H x y a b Q g (.inl rx) ry
theorem Rwu.ru {r : V → Hp → VK → Prop} {op : D → Option D} (h : Rwu C r op) : Ru C r op := fun F0 H0 L s σ F H x a Q g rx => h F0 H0 L s σ F H x a Q g (.inl rx)
def slotD {T : Type} (i : Nat) : M T D := fun s => match s.env[i]? with
  | some x => (match peek x with | some d => .ok d s | none => .stuck)
  | none => .stuck
/-- x op e, x a slot's name: x is looked at behind e -/
def mOpP {T : Type} (op : D → D → Option D) (i : Nat) (fb : M T D) : M T D := mBind (slotD i) fun _ => mBind fb fun b => mBind (slotD i) fun a => mLift (op a b)
def mUnP {T : Type} (op : D → Option D) (i : Nat) : M T D := mBind (slotD i) fun a => mLift (op a)
theorem po_slotD {i : Nat} {G : D → S T → Hp → Hp → Prop} (h : Po C W F0 H0 L F σ G (slotD i s)) : ∃ x d, s.env[i]? = some x ∧ Pm.peek x = some d ∧ Po C W F0 H0 L F σ G (mRet d s) := by
  unfold slotD at h
  cases q : s.env[i]? with
  | none => rw [q] at h; exact h.elim
  | some x =>
    rw [q] at h
    cases q2 : Pm.peek x with
    | none => simp only [q2] at h; exact h.elim
    | some d => simp only [q2] at h; exact ⟨x, d, rfl, q2, h⟩
theorem sv_opP {r : R2} {op : D → D → Option D} {tb : TE} {fb : M T D} {i : Nat} (hb : Sv C W tb fb) (hr : Rw C r op) : Sv C W (tOp r (tVar i) tb) (mOpP op i fb) := by
  intro F0 H0 L s σ F H Q g h
  obtain ⟨x0, d0, hx0, hd0, h0⟩ := po_slotD (po_bind h)
  obtain ⟨v, hv, _⟩ := g.peek hx0 hd0
  refine ⟨v, hv, hb _ _ _ _ _ _ _ _ g (po_imp (po_bind (po_ret h0 g)) fun b s1 F1 H1 g1 e1 h1 w rw' => ?_)⟩
  obtain ⟨x, d, hx, hd, h2⟩ := po_slotD (po_bind h1)
  obtain ⟨d', q, h4⟩ := po_lift (po_ret h2 g1)
  obtain ⟨v', hv', rs⟩ := g1.peek hx hd
  rw [hv] at hv'; cases hv'
  refine hr _ _ _ _ _ _ _ _ _ _ _ _ g1 rs rw' ?_
  rw [q]
  exact fun v' F' H' g' e' r' => h4 F' H' g' e' v' r'
theorem sv_unP {r : V → Hp → VK → Prop} {op : D → Option D} {i : Nat} (hr : Rwu C r op) : Sv C W (tUn r (tVar i)) (mUnP op i) := by
  intro F0 H0 L s σ F H Q g h
  obtain ⟨x, d, hx, hd, h2⟩ := po_slotD (po_bind h)
  obtain ⟨v, hv, rs⟩ := g.peek hx hd
  obtain ⟨d', q, h4⟩ := po_lift (po_ret h2 g)
  refine ⟨v, hv, hr _ _ _ _ _ _ _ _ _ _ g rs ?_⟩
  rw [q]
  exact fun v' F' H' g' e' r' => h4 F' H' g' e' v' r'
/-! ### built-ins of one, of two arguments -/
theorem sv_cb1 {r : List V → Hp → VK → Prop} {op : D → Option D} {ta : TE} {fa : M T D} (ha : Sv C W ta fa) (hr : Ru C (fun x => r [x]) op) : Sv C W (tCB r (tCons ta tNil)) (mUn op fa) := sv_un ha hr
theorem sv_cb1P {r : List V → Hp → VK → Prop} {op : D → Option D} {i : Nat} (hr : Rwu C (fun x => r [x]) op) : Sv C W (tCB r (tCons (tVar i) tNil)) (mUnP op i) := sv_unP hr
theorem sv_cb2 {r : List V → Hp → VK → Prop} {op : D → D → Option D} {ta tb : TE} {fa fb : M T D} (ha : Sv C W ta fa) (hb : Sv C W tb fb) (hr : Rv C (fun x y => r [x, y]) op) : Sv C W (tCB r (tCons ta (tCons tb tNil))) (mOp op fa fb) := sv_op (r := fun x y => r [x, y]) ha hb hr
end

/-! ### the built-ins by values -/
section
variable {T : Type} {C : Ct T} {X : Cx}
theorem CallR.or {f : Value} {r r' : List V → Hp → VK → Prop} (h : CallR X f r) (h' : CallR X f r') : CallR X f (fun xs H Q => r xs H Q ∨ r' xs H Q) := fun pins s σ H xs us Q I rx q => q.elim (h pins s σ H xs us Q I rx) (h' pins s σ H xs us Q I rx)
abbrev rcOr (r r' : List V → Hp → VK → Prop) : List V → Hp → VK → Prop := fun xs H Q => r xs H Q ∨ r' xs H Q
abbrev rLen1 (K : PySem.W.Frag) : List V → Hp → VK → Prop := fun xs H Q => ∃ x n, xs = [x] ∧ LenV K x H n ∧ Q (.int n) H
abbrev rLen2 : List V → Hp → VK → Prop := fun xs H Q => ∃ a kvs, xs = [V.ref a] ∧ Rd H a (.dK kvs) ∧ Q (.int kvs.length) H
theorem call_lenR {X : Cx} : CallR X (.builtin "len") rLen2 := by
  intro pins s σ H xs us Q I r h
  obtain ⟨a, kvs, rfl, ha, q⟩ := h
  obtain ⟨u, rfl, ru⟩ := vals1 r
  cases ru
  exact d_len I ha fun t s' I' => ⟨.int kvs.length, H, I', ⟨t, rfl⟩, q⟩
abbrev rLenA (K : PySem.W.Frag) := rcOr (rLen1 K) rLen2
theorem cr_len : CallR X (.builtin "len") (rLenA X.K) := CallR.or call_len call_lenR
def opLen : D → Option D
  | .tuple xs => some (.int xs.length)
  | .list xs => some (.int xs.length)
  | .str z => if z.length ≤ lim then some (.int z.length) else none
  | .dict xs => some (.int xs.length)
  | _ => none
theorem rw_len : Rwu C (fun x => rLenA C.K [x]) opLen := by
  intro F0 H0 L s σ F H x a Q g rx h
  rcases rx with rx | ⟨p, xs, ds, rfl, rfl, hp, r⟩ | ⟨p, xs, ds, rfl, rfl, hp, r⟩
  · cases rx with
    | tup hx rx => exact .inl ⟨_, _, rfl, .inr ⟨_, g.sub.tup hx, rx.length.symm⟩, rv_end g h (.int _)⟩
    | lst hx rx => exact .inl ⟨_, _, rfl, .inl ⟨_, SqL.of (g.sub.lst hx), rx.length.symm⟩, rv_end g h (.int _)⟩
    | str z =>
      dsimp only [opLen] at h
      by_cases hl : z.length ≤ lim
      · rw [if_pos hl] at h
        exact .inl ⟨.str z, z.length, rfl, ⟨lim_ok hl, rfl⟩, rv_end g h (.int _)⟩
      · rw [if_neg hl] at h; exact h.elim
    | dic hx rx =>
      refine .inr ⟨_, _, rfl, g.sub.dic hx, ?_⟩
      rw [rx.length]
      exact rv_end g h (.int _)
    | _ => exact h.elim
  · exact .inl ⟨_, _, rfl, .inl ⟨_, SqL.of hp, r.length.symm⟩, rv_end g h (.int _)⟩
  · refine .inr ⟨_, _, rfl, .inl hp, ?_⟩
    rw [r.length]
    exact rv_end g h (.int _)
theorem rw_ne : Rw C (rNeD C.K) opNe := by
  intro F0 H0 L s σ F H x y a b Q g rx ry h
  rcases rx with rx | ⟨p, xs, ds, rfl, rfl, hp, r⟩ | ⟨p, xs, ds, rfl, rfl, hp, r⟩
  · exact rv_ne F0 H0 L s σ F H x y a b Q g rx ry h
  · dsimp only [opNe] at h
    by_cases hl : (SeqAt.shaped (.list ds) && SeqAt.shaped b) = true
    · rw [if_pos hl] at h
      rw [Bool.and_eq_true] at hl
      have c := SeqAt.canLay_of_shaped hl.1
      unfold PyData.canLay0 at c
      exact ⟨_, b, .lst (SqL.of hp) (r.dp g.sub c), ry.dp g.sub (SeqAt.canLay_of_shaped hl.2), hl.1, hl.2, rv_end g h (.bl _)⟩
    · rw [if_neg hl] at h; exact h.elim
  · dsimp only [opNe] at h
    rw [show SeqAt.shaped (.dict ds) = false from rfl] at h
    exact h.elim
theorem rw_eq : Rw C (rEqD C.K) opEq := by
  intro F0 H0 L s σ F H x y a b Q g rx ry h
  rcases rx with rx | ⟨p, xs, ds, rfl, rfl, hp, r⟩ | ⟨p, xs, ds, rfl, rfl, hp, r⟩
  · exact rv_eq F0 H0 L s σ F H x y a b Q g rx ry h
  · dsimp only [opEq] at h
    by_cases hl : (SeqAt.shaped (.list ds) && SeqAt.shaped b) = true
    · rw [if_pos hl] at h
      rw [Bool.and_eq_true] at hl
      have c := SeqAt.canLay_of_shaped hl.1
      unfold PyData.canLay0 at c
      exact ⟨_, b, .lst (SqL.of hp) (r.dp g.sub c), ry.dp g.sub (SeqAt.canLay_of_shaped hl.2), hl.1, hl.2, rv_end g h (.bl _)⟩
    · rw [if_neg hl] at h; exact h.elim
  · dsimp only [opEq] at h
    rw [show SeqAt.shaped (.dict ds) = false from rfl] at h
    exact h.elim
theorem rw_ix : Rw C (rIxA C.K) opIx := by
  intro F0 H0 L s σ F H x y a b Q g rx ry h
  rcases rx with rx | ⟨p, xs, ds, rfl, rfl, hp, r⟩ | ⟨p, xs, ds, rfl, rfl, hp, r⟩
  · exact rv_ix F0 H0 L s σ F H x y a b Q g rx ry h
  · cases ry with
    | int i =>
      have h' : (match atI ds i with
        | some d => ∀ v F' H', Good C F0 H0 L s σ F' H' → Same F F' → Rep C.K F' v d → Q v H'
        | none => False) := h
      cases q : atI ds i with
      | none => rw [q] at h'; exact h'.elim
      | some d =>
        rw [q] at h'
        obtain ⟨v, hv, rv⟩ := atI_rep r q
        exact .inl (.inl ⟨p, xs, i, v, rfl, rfl, SqL.of hp, hv, rv_end g h' rv⟩)
    | _ => exact h.elim
  · exact .inr (dget_case g (.inl hp) r ry h)
/-- isinstance of a built-in class -/
inductive Ty | int | bool | str | tuple | list | dict
def Ty.nm : Ty → String
  | .int => "int" | .bool => "bool" | .str => "str" | .tuple => "tuple" | .list => "list" | .dict => "dict"
def isTy : Ty → D → Bool
  | .int, .int _ => true
  | .int, .bool _ => true
  | .bool, .bool _ => true
  | .str, .str _ => true
  | .tuple, .tuple _ => true
  | .list, .list _ => true
  | .dict, .dict _ => true
  | _, _ => false
def tyN : D → String
  | .none => "NoneType" | .bool _ => "bool" | .int _ => "int" | .str _ => "str" | .tuple _ => "tuple" | .list _ => "list" | .dict _ => "dict"
def tyTab (a : String) (t : Ty) (b : Bool) : Bool := decide (kitB a t.nm = some b)
theorem kit_tab (d : D) (t : Ty) : kitB (tyN d) t.nm = some (isTy t d) := by
  cases d <;> cases t <;> (simp only [tyN, Ty.nm, isTy]; decide +kernel)
theorem rep_ty {K : PySem.W.Frag} {F H : Hp} {v : V} {d : D} (u : Sub F H) (r : Rep K F v d) : TyX K H v (.type (tyN d)) := by
  cases r with
  | non => exact .base .non
  | bl b => exact .base (.bl b)
  | int i => exact .base (.int i)
  | str x => exact .base (.str x)
  | lst h r => exact .base (.lst (u.lst h))
  | tup h r =>
    rcases u.tup h with (h | ⟨o, h⟩) | ⟨o, its, n, h1, h2, _⟩
    · exact .base (.tup h)
    · exact .fTuple h
    · exact .kTuple h1 h2
  | dic h r =>
    rcases u.dic h with h | ⟨o, h⟩
    · exact .base (.dK h)
    · exact .fDict h
def mIsi {T : Type} (t : Ty) (f : M T D) : M T D := mUn (fun d => some (.bool (isTy t d))) f
theorem sv_isi {W : WX} {ta : TE} {fa : M T D} {n : String} (t : Ty) (hn : n = t.nm) (ha : Sv C W ta fa) : Sv C W (tCB (rIsi C.K) (tCons ta (tCons (tC (.ty n)) tNil))) (mIsi t fa) := by
  subst hn
  refine sv_un (r := fun x => rIsi C.K [x, .ty t.nm]) ha ?_
  intro F0 H0 L s σ F H x a Q g rx h
  exact ⟨x, .ty t.nm, _, _, _, rfl, .ty _, rep_ty g.sub rx, kit_ty (kit_tab a t), rv_end g h (.bl _)⟩
def opAll : D → Option D
  | .list xs => (dBools xs).map fun bs => .bool (bs.all id)
  | _ => none
def opAny : D → Option D
  | .list xs => (dBools xs).map fun bs => .bool (bs.any id)
  | _ => none
theorem ru_all : Ru C (fun x => rAll C.K [x]) opAll := by
  intro F0 H0 L s σ F H x a Q g rx h
  cases rx with
  | lst hx rx =>
    dsimp only [opAll] at h
    rename_i p xs ds
    cases q : dBools ds with
    | none => rw [q] at h; exact h.elim
    | some bs =>
      rw [q] at h
      have e := rep_bools rx q
      subst e
      exact ⟨p, bs, rfl, SqL.of (g.sub.lst hx), rv_end g h (.bl _)⟩
  | _ => exact h.elim
theorem ru_any : Ru C (fun x => rAny C.K [x]) opAny := by
  intro F0 H0 L s σ F H x a Q g rx h
  cases rx with
  | lst hx rx =>
    dsimp only [opAny] at h
    rename_i p xs ds
    cases q : dBools ds with
    | none => rw [q] at h; exact h.elim
    | some bs =>
      rw [q] at h
      have e := rep_bools rx q
      subst e
      exact ⟨p, bs, rfl, SqL.of (g.sub.lst hx), rv_end g h (.bl _)⟩
  | _ => exact h.elim
def opSum : D → Option D
  | .list xs => (dInts xs).map fun ns => .int ns.sum
  | _ => none
theorem ru_sum : Ru C (fun x => rSum C.K [x]) opSum := by
  intro F0 H0 L s σ F H x a Q g rx h
  cases rx with
  | lst hx rx =>
    dsimp only [opSum] at h
    rename_i p xs ds
    cases q : dInts ds with
    | none => rw [q] at h; exact h.elim
    | some bs =>
      rw [q] at h
      have e := rep_ints rx q
      subst e
      exact ⟨p, bs, rfl, SqL.of (g.sub.lst hx), rv_end g h (.int _)⟩
  | _ => exact h.elim
abbrev rAbs : List V → Hp → VK → Prop := fun xs H Q => ∃ i, xs = [.int i] ∧ Q (.int (if i < 0 then -i else i)) H
def opAbs : D → Option D
  | .int i => some (.int (if i < 0 then -i else i))
  | _ => none
theorem ru_abs : Ru C (fun x => rAbs [x]) opAbs := by
  intro F0 H0 L s σ F H x a Q g rx h
  cases rx with
  | int i => exact ⟨i, rfl, rv_end g h (.int _)⟩
  | _ => exact h.elim
abbrev rMin2 : List V → Hp → VK → Prop := fun xs H Q => ∃ i j, xs = [.int i, .int j] ∧ Q (.int (if j < i then j else i)) H
def opMin2 : D → D → Option D
  | .int i, .int j => some (.int (if j < i then j else i))
  | _, _ => none
theorem rv_min2 : Rv C (fun x y => rMin2 [x, y]) opMin2 := by
  intro F0 H0 L s σ F H x y a b Q g rx ry h
  cases rx with
  | int i =>
    cases ry with
    | int j => exact ⟨i, j, rfl, rv_end g h (.int _)⟩
    | _ => exact h.elim
  | _ => exact h.elim
abbrev rTupOf (K : PySem.W.Frag) : List V → Hp → VK → Prop := fun xs H Q => ∃ p ys, xs = [.ref p] ∧ ((SqL K H p ys ∧ ∀ l, H l = none → Q (.ref l) (upd H l (.tup ys))) ∨ (SqT K H p ys ∧ Q (.ref p) H))
def opTuple : D → Option D
  | .list xs => some (.tuple xs)
  | .tuple xs => some (.tuple xs)
  | _ => none
theorem rw_tuple : Rwu C (fun x => rTupOf C.K [x]) opTuple := by
  intro F0 H0 L s σ F H x a Q g rx h
  rcases rx with rx | ⟨p, xs, ds, rfl, rfl, hp, r⟩ | ⟨p, xs, ds, rfl, rfl, hp, r⟩
  · cases rx with
    | tup hx rx => exact ⟨_, _, rfl, .inr ⟨g.sub.tup hx, rv_end g h (.tup hx rx)⟩⟩
    | lst hx rx =>
      rename_i p xs ds
      refine ⟨_, _, rfl, .inl ⟨SqL.of (g.sub.lst hx), fun l hl => ?_⟩⟩
      have e1 := Same.updN (o := HO.tup xs) (g.sub.nn hl)
      exact h _ _ _ (g.allocF hl) e1 (.tup (.inl (.inl upd_same)) (rx.mono e1))
    | _ => exact h.elim
  · refine ⟨_, _, rfl, .inl ⟨SqL.of hp, fun l hl => ?_⟩⟩
    have e1 := Same.updN (o := HO.tup xs) (g.sub.nn hl)
    exact h _ _ _ (g.allocF hl) e1 (.tup (.inl (.inl upd_same)) (r.mono e1))
  · exact h.elim
end
end Pm

set_option Elab.async false
set_option linter.all false
set_option maxRecDepth 100000
/-! Calls of defs, slices, targets, statements, loops. -/
namespace Pm
open PySem L2

/-! ### defs -/
inductive Rp where
  | ok (d : D) | exc (c : Nat) | stuck
/-- behind a call of a def that keeps all that was tracked -/
structure Aft (F H F' H' : Hp) : Prop where
  ex : Same F F'
  sub : Sub F' H'
  nw : ∀ a o, F' a = some o → F a = some o ∨ H a = none
  st : Same H H'
def spP (K : PySem.W.Frag) (cls : Nat → Addr) (f : List D → Rp) : Sp := fun vs H Q E => ∃ F ds, Sub F H ∧ RepL K F vs ds ∧
  match f ds with
  | .ok d => ∀ v F' H', Aft F H F' H' → Rep K F' v d → Q v H'
  | .exc c => ∀ F' H', Aft F H F' H' → E (.ref (cls c)) none H'
  | .stuck => False
def mCall {T : Type} (f : List D → Rp) (fr : M T (List D)) : M T D := mBind fr fun ds s => match f ds with
  | .ok d => .ok d s
  | .exc c => .exc c s
  | .stuck => .stuck
section
variable {T : Type} {C : Ct T} {W : WX} {F0 H0 F F1 H : Hp} {L : Nat → Option Addr} {s : S T} {σ : L2.St} {α β : Type}
theorem Good.aft {F' H' : Hp} (g : Good C F0 H0 L s σ F H) (a : Aft F H F' H') : Good C F0 H0 L s σ F' H' := g.grow a.ex a.sub a.st a.nw
theorem sv_callP {f : List D → Rp} {tr : TA} {fr : M T (List D)} (ha : Sa C W tr fr) : Sv C W (tCallS (spP C.K C.cls f) (WE W) tr) (mCall f fr) := by
  intro F0 H0 L s σ F H Q g h
  refine ha _ _ _ _ _ _ _ _ g (po_imp (po_bind h) fun ds s1 F1 H1 g1 e1 h1 vs rv => ?_)
  refine ⟨F1, ds, g1.sub, rv, ?_⟩
  cases q : f ds with
  | ok d =>
    simp only [q] at h1
    exact fun v F' H' a r => h1 F' H' (g1.aft a) a.ex v r
  | exc c =>
    simp only [q] at h1
    exact fun F' H' a => h1 F' H' (g1.aft a) a.ex
  | stuck => simp only [q] at h1; exact h1.elim
/-! ### slices -/
abbrev So {T : Type} (C : Ct T) (W : WX) (t : TO) (f : M T (Option Int)) : Prop := ∀ F0 H0 L s σ F H (Q : Option Int → Hp → Prop), Good C F0 H0 L s σ F H → Po C W F0 H0 L F σ (fun o _ _ H' => Q o H') (f s) → t σ H Q
def asI : D → Option Int
  | .int i => some i
  | _ => none
theorem so_none : So C W tNoPart (mRet none) := fun F0 H0 L s σ F H Q g h => po_ret h g
def mSome {T : Type} (f : M T D) : M T (Option Int) := mBind f fun d => mLift ((asI d).map some)
theorem so_some {ta : TE} {fa : M T D} (ha : Sv C W ta fa) : So C W (tPart ta) (mSome fa) := by
  intro F0 H0 L s σ F H Q g h
  refine ha _ _ _ _ _ _ _ _ g (po_imp (po_bind h) fun d s1 F1 H1 g1 e1 h1 v rv => ?_)
  obtain ⟨o, q, h2⟩ := po_lift h1
  cases rv with
  | int i => cases q; exact ⟨i, rfl, po_ret h2 g1⟩
  | _ => cases q
def cutD (xs : List D) (lo hi : Option Int) : List D := (xs.drop (HT.sIx xs.length 0 lo)).take (HT.sIx xs.length xs.length hi - HT.sIx xs.length 0 lo)
def opSl (x : D) (lo hi : Option Int) : Option D := match x with
  | .list xs => some (.list (cutD xs lo hi))
  | .tuple xs => if HT.sIx xs.length 0 lo = 0 ∧ HT.sIx xs.length xs.length hi = xs.length then none else some (.tuple (cutD xs lo hi))
  | .str z => if z.length ≤ lim then some (.str (cutS z lo hi)) else none
  | _ => none
abbrev rSlA (K : PySem.W.Frag) : V → Option Int → Option Int → Hp → VK → Prop := fun x lo hi H Q => rSlL K x lo hi H Q ∨ rSlT K x lo hi H Q ∨ rSlS x lo hi H Q
theorem SlR.or {X : Cx} {r r' : V → Option Int → Option Int → Hp → VK → Prop} (h : SlR X r) (h' : SlR X r') : SlR X (fun x lo hi H Q => r x lo hi H Q ∨ r' x lo hi H Q) := fun pins s σ H x v vl vu l u sl Q I rx hs pl pu q =>
  q.elim (fun q => h pins s σ H x v vl vu l u sl Q I rx hs pl pu q) (fun q => h' pins s σ H x v vl vu l u sl Q I rx hs pl pu q)
theorem sl_any {X : Cx} : SlR X (rSlA X.K) := SlR.or sl_list (SlR.or sl_tup sl_str)
theorem cut_rep {K : PySem.W.Frag} {F : Hp} {xs : List V} {ds : List D} (r : RepL K F xs ds) (lo hi : Option Int) : RepL K F (cutV xs lo hi) (cutD ds lo hi) := by
  unfold cutV cutD
  rw [r.length]
  exact (r.drop _).take _
def mSl {T : Type} (fa : M T D) (fl fh : M T (Option Int)) : M T D := mBind fa fun a => mBind fl fun l => mBind fh fun h => mLift (opSl a l h)
theorem sv_sl {ta : TE} {tl th : TO} {fa : M T D} {fl fh : M T (Option Int)} (ha : Sv C W ta fa) (hl : So C W tl fl) (hh : So C W th fh) : Sv C W (tSl (rSlA C.K) ta tl th) (mSl fa fl fh) := by
  intro F0 H0 L s σ F H Q g h
  refine ha _ _ _ _ _ _ _ _ g (po_imp (po_bind h) fun a s1 F1 H1 g1 e1 h1 v rv => ?_)
  refine hl _ _ _ _ _ _ _ _ g1 (po_imp (po_bind h1) fun lo s2 F2 H2 g2 e2 h2 => ?_)
  refine hh _ _ _ _ _ _ _ _ g2 (po_imp (po_bind h2) fun hi s3 F3 H3 g3 e3 h3 => ?_)
  obtain ⟨d, q, h4⟩ := po_lift h3
  have rv := (rv.mono e2).mono e3
  cases rv with
  | lst hx r =>
    cases q
    rename_i p xs ds
    refine .inl ⟨p, xs, rfl, SqL.of (g3.sub.lst hx), fun l hl => ?_⟩
    have e1 := Same.updN (o := HO.lst (cutV xs lo hi)) (g3.sub.nn hl)
    exact h4 _ _ (g3.allocF hl) e1 _ (.lst upd_same ((cut_rep r lo hi).mono e1))
  | tup hx r =>
    rename_i p xs ds
    dsimp only [opSl] at q
    by_cases hw : HT.sIx ds.length 0 lo = 0 ∧ HT.sIx ds.length ds.length hi = ds.length
    · rw [if_pos hw] at q; cases q
    · rw [if_neg hw] at q; cases q
      refine .inr (.inl ⟨p, xs, rfl, g3.sub.tup hx, by rw [r.length]; exact hw, fun l hl => ?_⟩)
      have e1 := Same.updN (o := HO.tup (cutV xs lo hi)) (g3.sub.nn hl)
      exact h4 _ _ (g3.allocF hl) e1 _ (.tup (.inl (.inl upd_same)) ((cut_rep r lo hi).mono e1))
  | str z =>
    dsimp only [opSl] at q
    by_cases hw : z.length ≤ lim
    · rw [if_pos hw] at q; cases q
      exact .inr (.inr ⟨z, rfl, lim_ok hw, h4 _ _ g3 (Same.refl _) _ (.str _)⟩)
    · rw [if_neg hw] at q; cases q
  | _ => cases q

/-! ### append -/
def mAppend {T : Type} (i : Nat) (fa : M T D) : M T D := fun s => match s.env[i]? with
  | some (.ol _) => mBind fa (fun d s1 => match s1.env[i]? with
    | some (.ol xs) => if xs.length < lim then .ok .none ⟨s1.env.set i (.ol (xs ++ [d])), s1.t⟩ else .stuck
    | _ => .stuck) s
  | _ => .stuck
theorem sv_append {i : Nat} {ta : TE} {fa : M T D} (ha : Sv C W ta fa) : Sv C W (tBM C.K "list" rAppend (tVar i) (tCons ta tNil)) (mAppend i fa) := by
  intro F0 H0 L s σ F H Q g h
  unfold mAppend at h
  cases q0 : s.env[i]? with
  | none => rw [q0] at h; exact h.elim
  | some x =>
    rw [q0] at h
    cases x with
    | ol xs =>
      simp only at h
      obtain ⟨p, vs, h1, h2, h3, h4, h5⟩ := g.slots i _ q0
      refine ⟨.ref p, h1, .inl ⟨rfl, _, SqL.of h4⟩, ?_⟩
      refine ha _ _ _ _ _ _ _ _ g (po_imp (po_bind h) fun d s1 F1 H1 g1 e1 k1 v rv => ?_)
      cases q1 : s1.env[i]? with
      | none => rw [q1] at k1; exact k1.elim
      | some y =>
        rw [q1] at k1
        cases y with
        | ol ys =>
          simp only at k1
          by_cases hl : ys.length < lim
          · rw [if_pos hl] at k1
            obtain ⟨p', ws, z1, z2, z3, z4, z5⟩ := g1.slots i _ q1
            rw [h1] at z1; cases z1
            have hlen := z5.length
            refine ⟨p, ws, v, rfl, rfl, z4, ?_, ?_⟩
            · rw [hlen]; exact Nat.lt_of_lt_of_le hl (lim_ok (Nat.le_refl _))
            · have g2 := g1.mutate (o := HO.lst (ws ++ [v])) q1 rfl h1 (y := .ol (ys ++ [d])) ⟨p, _, rfl, z2, z3, upd_same, z5.snoc rv⟩ z2 z3 ⟨_, z4⟩
              exact k1 _ _ g2 (Same.refl _) _ .non
          · rw [if_neg hl] at k1; exact k1.elim
        | _ => exact k1.elim
    | _ => exact h.elim
end

/-! ### targets -/
section
variable {T : Type} {C : Ct T} {W : WX}
/-- the target's stores touch the slots in is alone -/
def Sg (C : Ct T) (g : TG) (is : List Nat) (p : D → M T Unit) : Prop := ∀ F0 H0 L s σ F H (v : V) (d : D) (Q : L2.St → Hp → Prop), Good C F0 H0 L s σ F H → Rep C.K F v d →
  (match p d s with
    | .ok _ s' => ∀ σ', Good C F0 H0 L s' σ' F H → (∀ vs : List Nat, (∀ i ∈ is, i ∈ vs) → wipe σ' vs = wipe σ vs) → Q σ' H
    | _ => False) → g v σ H Q
def Sgs (C : Ct T) (g : TGs) (is : List Nat) (p : List D → M T Unit) : Prop := ∀ F0 H0 L s σ F H (vs : List V) (ds : List D) (Q : L2.St → Hp → Prop), Good C F0 H0 L s σ F H → RepL C.K F vs ds →
  (match p ds s with
    | .ok _ s' => ∀ σ', Good C F0 H0 L s' σ' F H → (∀ vs : List Nat, (∀ i ∈ is, i ∈ vs) → wipe σ' vs = wipe σ vs) → Q σ' H
    | _ => False) → g vs σ H Q
def pName {T : Type} (i : Nat) (d : D) : M T Unit := fun s => .ok () ⟨s.env.set i (.fz d), s.t⟩
theorem wipe_none {σ : L2.St} {i : Nat} : ∀ {vs : List Nat}, i ∈ vs → (wipe σ vs)[i]? = (if i < σ.length then some none else none)
  | [], h => by cases h
  | v :: vs, h => by
    unfold wipe
    by_cases e : v = i
    · subst e
      by_cases hl : v < σ.length
      · rw [List.getElem?_set_self (by rw [wipe_length]; exact hl), if_pos hl]
      · rw [List.getElem?_eq_none (by rw [List.length_set, wipe_length]; omega), if_neg hl]
    · rw [List.getElem?_set_ne e]
      exact wipe_none ((List.mem_cons.mp h).resolve_left (fun z => e z.symm))
theorem wipe_other {σ : L2.St} {i : Nat} : ∀ {vs : List Nat}, i ∉ vs → (wipe σ vs)[i]? = σ[i]?
  | [], _ => rfl
  | v :: vs, h => by
    unfold wipe
    rw [List.getElem?_set_ne (fun e => h (by rw [e]; exact List.mem_cons_self))]
    exact wipe_other fun z => h (List.mem_cons_of_mem _ z)
theorem wipe_set {σ : L2.St} {i : Nat} {x : Option V} {vs : List Nat} (h : i ∈ vs) : wipe (σ.set i x) vs = wipe σ vs := by
  apply List.ext_getElem?
  intro j
  by_cases hj : j ∈ vs
  · rw [wipe_none hj, wipe_none hj, List.length_set]
  · rw [wipe_other hj, wipe_other hj, List.getElem?_set_ne (fun e => hj (by rw [← e]; exact h))]
theorem sg_name (i : Nat) : Sg C (gName i) [i] (pName i) := by
  intro F0 H0 L s σ F H v d Q g r h
  exact h _ (g.setFz i r) fun vs hv => wipe_set (hv i (by simp))
def pNil {T : Type} : List D → M T Unit
  | [] => mRet ()
  | _ :: _ => fun _ => .stuck
def pCons {T : Type} (p : D → M T Unit) (ps : List D → M T Unit) : List D → M T Unit
  | [] => fun _ => .stuck
  | d :: ds => mBind (p d) fun _ => ps ds
theorem sgs_nil : Sgs C gNil [] pNil := by
  intro F0 H0 L s σ F H vs ds Q g r h
  cases r with
  | nil => exact ⟨rfl, h σ g fun _ _ => rfl⟩
  | cons _ _ => exact h.elim
theorem sgs_cons {t : TG} {u : TGs} {is js : List Nat} {p : D → M T Unit} {ps : List D → M T Unit} (h1 : Sg C t is p) (h2 : Sgs C u js ps) : Sgs C (gCons t u) (is ++ js) (pCons p ps) := by
  intro F0 H0 L s σ F H vs ds Q g r h
  cases r with
  | nil => exact h.elim
  | cons r1 r2 =>
    refine ⟨_, _, rfl, h1 _ _ _ _ _ _ _ _ _ _ g r1 ?_⟩
    simp only [pCons, mBind] at h
    rename_i v vs d ds
    cases q : p d s with
    | ok _ s1 =>
      rw [q] at h
      intro σ1 g1 w1
      refine h2 _ _ _ _ _ _ _ _ _ _ g1 r2 ?_
      simp only at h
      cases q2 : ps ds s1 with
      | ok _ s2 =>
        rw [q2] at h
        intro σ2 g2 w2
        exact h σ2 g2 fun vs hv => (w2 vs fun i hi => hv i (List.mem_append_right _ hi)).trans (w1 vs fun i hi => hv i (List.mem_append_left _ hi))
      | exc c s2 => rw [q2] at h; exact h.elim
      | stuck => rw [q2] at h; exact h.elim
    | exc c s1 => rw [q] at h; exact h.elim
    | stuck => rw [q] at h; exact h.elim
def pTup {T : Type} (n : Nat) (ps : List D → M T Unit) : D → M T Unit
  | .tuple ds => if ds.length = n then ps ds else fun _ => .stuck
  | .list ds => if ds.length = n then ps ds else fun _ => .stuck
  | _ => fun _ => .stuck
def gTL (K : PySem.W.Frag) (n : Nat) (u : TGs) : TG := fun v σ H Q => gTup K n u v σ H Q ∨ gLst K n u v σ H Q
theorem pg_tl {X : Cx} {es : List Expr} {k : Nat} {pos : Pos} {t : TGs} {n : Nat} (hc : X.calm = true) (h : PGs X es t) (hn : (assignEach es X.env).length = n := by rfl) (hst : (assignEach es X.env).findIdx? (·.1) = none := by rfl) : PG X (.Tuple es k pos) (gTL X.K n t) :=
  ⟨fun pins s σ H v u Q I r hw => hw.elim (fun q => (pg_tup hc h hn hst).run pins s σ H v u Q I r q) (fun q => (pg_lst hc h hn hst).run pins s σ H v u Q I r q)⟩
theorem sg_tup {n : Nat} {u : TGs} {is : List Nat} {ps : List D → M T Unit} (h : Sgs C u is ps) : Sg C (gTL C.K n u) is (pTup n ps) := by
  intro F0 H0 L s σ F H v d Q g r k
  cases r with
  | tup hx r =>
    dsimp only [pTup] at k
    rename_i p xs ds
    by_cases hn : ds.length = n
    · rw [if_pos hn] at k
      exact .inl ⟨p, xs, rfl, g.sub.tup hx, by rw [r.length]; exact hn, h _ _ _ _ _ _ _ _ _ _ g r k⟩
    · rw [if_neg hn] at k; exact k.elim
  | lst hx r =>
    dsimp only [pTup] at k
    rename_i p xs ds
    by_cases hn : ds.length = n
    · rw [if_pos hn] at k
      exact .inr ⟨p, xs, rfl, SqL.of (g.sub.lst hx), by rw [r.length]; exact hn, h _ _ _ _ _ _ _ _ _ _ g r k⟩
    · rw [if_neg hn] at k; exact k.elim
  | _ => exact k.elim
end
end Pm

set_option Elab.async false
set_option linter.all false
set_option maxRecDepth 100000
/-! What is walked; loops; statements; comprehensions. -/
namespace Pm
open PySem L2 RZ

def YOk (K : PySem.W.Frag) (F H : Hp) (x : V) (H3 : Hp) (d : D) : Prop :=
  (H3 = H ∧ Rep K F x d) ∨ ∃ tp a b da db, x = .ref tp ∧ H tp = none ∧ H3 = upd H tp (.tup [a, b]) ∧ Rep K F a da ∧ Rep K F b db ∧ d = .tuple [da, db]
structure ItOk (K : PySem.W.Frag) (F : Hp) (B : Hp → Prop) (J : It) (items : List D) : Prop where
  ok : ∃ (G : Hp → Prop) (Y : Nat → Hp → V → Hp → Prop), Walk J items.length G Y ∧ (∀ F' H', Same F F' → Sub F' H' → B H' → G H') ∧
    ∀ (i : Nat) (x : V) (F' H' H3 : Hp) (d : D), Same F F' → Sub F' H' → items[i]? = some d → Y i H' x H3 → YOk K F' H' x H3 d
section
variable {T : Type} {C : Ct T} {W : WX} {F0 H0 F F1 H : Hp} {B : Hp → Prop} {L : Nat → Option Addr} {s : S T} {σ : L2.St} {α β : Type}
/-- the heap at the def's entry stands -/
def Bs (C : Ct T) (H0 H' : Hp) : Prop := ∀ a o, H0 a = some o → a ∉ C.fp → H' a = some o
def Si (C : Ct T) (W : WX) (wi : TI) (f : M T (List D)) : Prop := ∀ F0 H0 L s σ F H (R : It → Hp → Prop), Good C F0 H0 L s σ F H → Po C W F0 H0 L F σ (fun items _ F' H' => ∀ J, ItOk C.K F' (Bs C H0) J items → R J H') (f s) → wi σ H R
def asSeq : D → Option (List D)
  | .list xs => some xs
  | .tuple xs => some xs
  | .str z => some (z.cps.toList.map fun c => .str ⟨#[c]⟩)
  | _ => none
def mIter {T : Type} (f : M T D) : M T (List D) := mBind f fun d => mLift (asSeq d)
theorem it_list {K : PySem.W.Frag} {a : Addr} {xs : List V} {ds : List D} (hx : F a = some (.lst xs)) (r : RepL K F xs ds) : ItOk K F B (Itl K a) ds :=
  ⟨_, _, r.length ▸ walk_list (K := K) (a := a) (xs := xs), fun F' H' e u _ => SqL.of (u.lst (e _ _ hx)), fun i x F' H' H3 d e u hd y => by
    obtain ⟨e1, e2⟩ := y
    obtain ⟨v, h1, h2⟩ := r.get hd
    rw [e2] at h1; cases h1
    exact .inl ⟨e1, h2.mono e⟩⟩
theorem it_tup {K : PySem.W.Frag} {a : Addr} {xs : List V} {ds : List D} (hx : SqF K F a xs) (r : RepL K F xs ds) : ItOk K F B (Itt K a) ds :=
  ⟨_, _, r.length ▸ walk_tup (K := K) (a := a) (xs := xs), fun F' H' e u _ => u.tup (sqT_mono e hx), fun i x F' H' H3 d e u hd y => by
    obtain ⟨e1, e2⟩ := y
    obtain ⟨v, h1, h2⟩ := r.get hd
    rw [e2] at h1; cases h1
    exact .inl ⟨e1, h2.mono e⟩⟩
theorem it_str {K : PySem.W.Frag} {z : Str} : ItOk K F B (Its z) (z.cps.toList.map fun c => .str ⟨#[c]⟩) :=
  ⟨_, _, (show (z.cps.toList.map fun c => PyData.str ⟨#[c]⟩).length = z.cps.size by simp) ▸ walk_str (z := z), fun _ _ _ _ _ => trivial, fun i x F' H' H3 d e u hd y => by
    obtain ⟨e1, c, e2, rfl⟩ := y
    rw [List.getElem?_map, Array.getElem?_toList, e2] at hd
    cases hd
    exact .inl ⟨e1, .str _⟩⟩
theorem PI.or {X : Cx} {tg e : Expr} {wi wi' : TI} (h : PI X tg e wi) (h' : PI X tg e wi') : PI X tg e (fun σ H R => wi σ H R ∨ wi' σ H R) := ⟨fun pins s σ H R I q => q.elim (h.run pins s σ H R I) (h'.run pins s σ H R I)⟩
abbrev iSeq (K : PySem.W.Frag) (te : TE) : TI := fun σ H R => te σ H fun x H1 => (∃ a, x = .ref a ∧ (∃ xs, SqL K H1 a xs) ∧ R (Itl K a) H1) ∨ (∃ a, x = .ref a ∧ (∃ xs, SqT K H1 a xs) ∧ R (Itt K a) H1) ∨ ∃ z, x = .str z ∧ R (Its z) H1
/-- a list, a tuple, a text: whatever the expression gives -/
theorem pi_seq {X : Cx} {tg e : Expr} {te : TE} (h : PE X e te) : PI X tg e (iSeq X.K te) := by
  refine ⟨fun pins s σ H R I q => ?_⟩
  refine thn (h.run pins s σ H _ I q) fun v s1 ⟨x, H1, I1, r1, q1⟩ => ?_
  rcases q1 with ⟨a, e1, ⟨xs, hq⟩, q⟩ | ⟨a, e1, ⟨xs, hq⟩, q⟩ | ⟨z, e1, q⟩
  · subst e1
    cases r1
    obtain ⟨its, rv, p, hz⟩ := I1.list hq
    refine wpAny_pyIter_list p.isList ?_
    refine ⟨s1.heap.objs.size, [s1.heap.objs.size], _, _, H1, rfl, I1.kept (t' := s1.toks) fun b o e => Heap.get?_push_of_some _ e, turn_list a _, ⟨_, Heap.get?_push_size _ rfl, rfl, rfl⟩, fun b hb => ?_, q⟩
    have e : b = s1.heap.objs.size := by simpa using hb
    subst e
    exact I1.fpOk (Nat.le_refl _) (I1.hok.fresh (Nat.le_refl _))
  · subst e1
    cases r1
    obtain ⟨its, rv, p, hz⟩ := I1.tuple hq
    refine wpAny_pyIter_tuple (show s1.heap.IsTuple a its.toArray from p) ?_
    refine ⟨s1.heap.objs.size, [s1.heap.objs.size], _, _, H1, rfl, I1.kept (t' := s1.toks) fun b o e => Heap.get?_push_of_some _ e, turn_tuple a _, ⟨_, Heap.get?_push_size _ rfl, rfl, rfl⟩, fun b hb => ?_, q⟩
    have e : b = s1.heap.objs.size := by simpa using hb
    subst e
    exact I1.fpOk (Nat.le_refl _) (I1.hok.fresh (Nat.le_refl _))
  · subst e1
    obtain ⟨t, rfl⟩ := r1
    cases ha : z.cps.all (· < 128)
    · exact PySem.wpAny_pyIter_wide ha (pi_one (tk := s1.toks) I1 _ (turn_str _ z t "str_iterator" (.inr rfl)) ⟨_, Heap.get?_push_size _ rfl, rfl, rfl⟩ q)
    · exact PySem.wpAny_pyIter_ascii ha (pi_one (tk := s1.toks) I1 _ (turn_str _ z t "str_ascii_iterator" (.inl rfl)) ⟨_, Heap.get?_push_size _ rfl, rfl, rfl⟩ q)
theorem si_seq {ta : TE} {fa : M T D} (ha : Sv C W ta fa) : Si C W (iSeq C.K ta) (mIter fa) := by
  intro F0 H0 L s σ F H R g h
  refine ha _ _ _ _ _ _ _ _ g (po_imp (po_bind h) fun d s1 F1 H1 g1 e1 h1 v rv => ?_)
  obtain ⟨items, q, h2⟩ := po_lift h1
  have h3 := po_ret h2 g1
  cases rv with
  | lst hx r => cases q; exact .inl ⟨_, rfl, ⟨_, SqL.of (g1.sub.lst hx)⟩, h3 _ (it_list hx r)⟩
  | tup hx r => cases q; exact .inr (.inl ⟨_, rfl, ⟨_, g1.sub.tup hx⟩, h3 _ (it_tup hx r)⟩)
  | str z => cases q; exact .inr (.inr ⟨_, rfl, h3 _ it_str⟩)
  | _ => cases q
/-- range -/
def rangeL (lo hi : Int) : List D := (List.range (hi - lo).toNat).map fun i => .int (lo + (i : Nat))
theorem it_range {K : PySem.W.Frag} {lo : Int} {n : Nat} : ItOk K F B (Itr lo n) ((List.range n).map fun i => .int (lo + (i : Nat))) :=
  ⟨_, _, by rw [show ((List.range n).map fun i => PyData.int (lo + (i : Nat))).length = n by simp]; exact walk_range (lo := lo) (n := n), fun _ _ _ _ _ => trivial, fun i x F' H' H3 d e u hd y => by
    obtain ⟨e1, rfl⟩ := y
    rw [List.getElem?_map, List.getElem?_range] at hd
    · cases hd; exact .inl ⟨e1, .int _⟩
    · by_cases hi : i < n
      · exact hi
      · rw [List.getElem?_eq_none (by simpa using hi)] at hd; cases hd⟩
def mRange1 {T : Type} (f : M T D) : M T (List D) := mBind f fun d => mLift (match d with
  | .int j => if -(2 ^ 62) ≤ j ∧ j < 2 ^ 62 then some (rangeL 0 j) else none
  | _ => none)
theorem si_range1 {ta : TE} {fa : M T D} (ha : Sv C W ta fa) : Si C W (iRng1 (tCons ta tNil)) (mRange1 fa) := by
  intro F0 H0 L s σ F H R g h
  refine ha _ _ _ _ _ _ _ _ g (po_imp (po_bind h) fun d s1 F1 H1 g1 e1 h1 v rv => ?_)
  obtain ⟨items, q, h2⟩ := po_lift h1
  have h3 := po_ret h2 g1
  cases rv with
  | int j =>
    dsimp only at q
    by_cases hj : -(2 ^ 62) ≤ j ∧ j < 2 ^ 62
    · rw [if_pos hj] at q; cases q
      refine ⟨j, rfl, hj.1, hj.2, h3 _ ?_⟩
      have k := it_range (K := C.K) (F := F1) (B := Bs C H0) (lo := 0) (n := j.toNat)
      unfold rangeL
      simpa using k
    · rw [if_neg hj] at q; cases q
  | _ => cases q
def mRange2 {T : Type} (fa fb : M T D) : M T (List D) := mBind fa fun a => mBind fb fun b => mLift (match a, b with
  | .int i, .int j => if -(2 ^ 62) ≤ i ∧ i < 2 ^ 62 ∧ -(2 ^ 62) ≤ j ∧ j < 2 ^ 62 then some (rangeL i j) else none
  | _, _ => none)
theorem si_range2 {ta tb : TE} {fa fb : M T D} (ha : Sv C W ta fa) (hb : Sv C W tb fb) : Si C W (iRng2 (tCons ta (tCons tb tNil))) (mRange2 fa fb) := by
  intro F0 H0 L s σ F H R g h
  refine ha _ _ _ _ _ _ _ _ g (po_imp (po_bind h) fun a s1 F1 H1 g1 e1 h1 v rv => ?_)
  refine hb _ _ _ _ _ _ _ _ g1 (po_imp (po_bind h1) fun b s2 F2 H2 g2 e2 h2 w rw' => ?_)
  obtain ⟨items, q, h2⟩ := po_lift h2
  have h3 := po_ret h2 g2
  cases rv with
  | int i =>
    cases rw' with
    | int j =>
      dsimp only at q
      by_cases hj : -(2 ^ 62) ≤ i ∧ i < 2 ^ 62 ∧ -(2 ^ 62) ≤ j ∧ j < 2 ^ 62
      · rw [if_pos hj] at q; cases q
        exact ⟨i, j, rfl, hj, h3 _ it_range⟩
      · rw [if_neg hj] at q; cases q
    | _ => cases q
  | _ => cases q
/-- zip of two -/
def zipD : List D → List D → List D
  | a :: as, b :: bs => .tuple [a, b] :: zipD as bs
  | _, _ => []
theorem zipD_length : ∀ (as bs : List D), (zipD as bs).length = min as.length bs.length
  | [], _ => by simp [zipD]
  | _ :: _, [] => by simp [zipD]
  | a :: as, b :: bs => by
    unfold zipD
    rw [List.length_cons, zipD_length as bs, List.length_cons, List.length_cons]
    omega
theorem zipD_get : ∀ {as bs : List D} {i : Nat} {d : D}, (zipD as bs)[i]? = some d → ∃ a b, as[i]? = some a ∧ bs[i]? = some b ∧ d = .tuple [a, b]
  | [], _, _, _, h => by simp [zipD] at h
  | _ :: _, [], _, _, h => by simp [zipD] at h
  | a :: as, b :: bs, 0, d, h => by simp [zipD] at h; exact ⟨a, b, rfl, rfl, h.symm⟩
  | a :: as, b :: bs, i + 1, d, h => by
    obtain ⟨x, y, h1, h2, h3⟩ := zipD_get (as := as) (bs := bs) (i := i) (by simpa [zipD] using h)
    exact ⟨x, y, by simpa using h1, by simpa using h2, h3⟩
def mZip {T : Type} (fa fb : M T D) : M T (List D) := mBind fa fun a => mBind fb fun b => mLift (match a, b with
  | .list xs, .list ys => some (zipD xs ys)
  | .tuple xs, .tuple ys => some (zipD xs ys)
  | _, _ => none)
theorem walk_zipT {K : PySem.W.Frag} {a b : Addr} {xs ys : List V} {n : Nat} (hn : n = min xs.length ys.length) : Walk (ItzT K a b) n (fun H => SqT K H a xs ∧ SqT K H b ys) (YPair (fun i => xs[i]?) (fun i => ys[i]?)) := by
  subst hn
  refine ⟨fun i _ hi q => ?_, fun _ q => ⟨xs, ys, q.1, q.2, by omega⟩, fun i H v H' _ q y => ?_⟩
  · have h1 : i < xs.length := by omega
    have h2 : i < ys.length := by omega
    exact ⟨xs, ys, xs[i], ys[i], q.1, q.2, by simp [h1], by simp [h2]⟩
  · obtain ⟨T, x, z, h1, h2, h3, h4, h5⟩ := y
    exact ⟨T, x, z, h1, h2, h3, h4 xs q.1, h5 ys q.2⟩
theorem y_zip {K : PySem.W.Frag} {xs ys : List V} {as bs : List D} (rx : RepL K F xs as) (ry : RepL K F ys bs) {i : Nat} {x : V} {F' H' H3 : Hp} {d : D} (e : Same F F') (hd : (zipD as bs)[i]? = some d) (y : YPair (fun i => xs[i]?) (fun i => ys[i]?) i H' x H3) : YOk K F' H' x H3 d := by
  obtain ⟨tp, p, q, h1, h2, h3, h4, h5⟩ := y
  obtain ⟨a, b, ha, hb, rfl⟩ := zipD_get hd
  obtain ⟨v, k1, k2⟩ := rx.get ha
  obtain ⟨w, l1, l2⟩ := ry.get hb
  dsimp only at h4 h5
  rw [h4] at k1; cases k1
  rw [h5] at l1; cases l1
  exact .inr ⟨tp, p, q, a, b, h1, h2, h3, k2.mono e, l2.mono e, rfl⟩
theorem si_zip {ta tb : TE} {fa fb : M T D} (ha : Sv C W ta fa) (hb : Sv C W tb fb) : Si C W (iZipA C.K (tCons ta (tCons tb tNil))) (mZip fa fb) := by
  intro F0 H0 L s σ F H R g h
  refine ha _ _ _ _ _ _ _ _ g (po_imp (po_bind h) fun a s1 F1 H1 g1 e1 h1 v rv => ?_)
  refine hb _ _ _ _ _ _ _ _ g1 (po_imp (po_bind h1) fun b s2 F2 H2 g2 e2 h2 w rw' => ?_)
  obtain ⟨items, q, h2⟩ := po_lift h2
  have h3 := po_ret h2 g2
  have rv := rv.mono e2
  cases rv with
  | lst hx rx =>
    cases rw' with
    | lst hy ry =>
      cases q
      refine ⟨_, _, _, _, rfl, .inl ⟨SqL.of (g2.sub.lst hx), SqL.of (g2.sub.lst hy), h3 _ ⟨_, _, walk_zip (by rw [zipD_length, rx.length, ry.length]), fun F' H' e u _ => ⟨SqL.of (u.lst (e _ _ hx)), SqL.of (u.lst (e _ _ hy))⟩, fun i x F' H' H3 d e u hd y => y_zip rx ry e hd y⟩⟩⟩
    | _ => cases q
  | tup hx rx =>
    cases rw' with
    | tup hy ry =>
      cases q
      refine ⟨_, _, _, _, rfl, .inr ⟨g2.sub.tup hx, g2.sub.tup hy, h3 _ ⟨_, _, walk_zipT (by rw [zipD_length, rx.length, ry.length]), fun F' H' e u _ => ⟨u.tup (sqT_mono e hx), u.tup (sqT_mono e hy)⟩, fun i x F' H' H3 d e u hd y => y_zip rx ry e hd y⟩⟩⟩
    | _ => cases q
  | _ => cases q
end
end Pm

set_option Elab.async false
set_option linter.all false
set_option maxRecDepth 100000
/-! Statements, loops. -/
namespace Pm
open PySem L2 RZ

inductive Out where
  | nx | bk | ct | ret (d : D)
def mBlk {T α : Type} (m : M T α) : M T α := fun s => match m s with
  | .ok a s' => .ok a s'
  | _ => .stuck
def mSeq {T : Type} (f g : M T Out) : M T Out := mBind f fun o => match o with
  | .nx => g
  | o => mRet o
def mReturn {T : Type} (f : M T D) : M T Out := mBind f fun d => mRet (.ret d)
def mExpr {T : Type} (f : M T D) : M T Out := mBind f fun _ => mRet .nx
def mSet {T : Type} (i : Nat) (f : M T Slot) : M T Out := mBind f fun x s => .ok .nx ⟨s.env.set i x, s.t⟩
def mSetG {T : Type} (p : D → M T Unit) (f : M T D) : M T Out := mBind f fun d => mBind (mBlk (p d)) fun _ => mRet .nx
def mSets {T : Type} (f : M T (List Slot)) (is : List Nat) : M T Out := mBind f fun xs s => if xs.length = is.length ∧ xs.length ≤ 1000 then .ok .nx ⟨(is.zip xs).foldl (fun e p => e.set p.1 p.2) s.env, s.t⟩ else .stuck
def mForL {T : Type} (f : D → M T Out) : List D → M T Out
  | [] => mRet .nx
  | d :: ds => mBind (f d) fun o => match o with
    | .nx => mForL f ds
    | .ct => mForL f ds
    | .bk => mRet .nx
    | .ret v => mRet (.ret v)
def mFor {T : Type} (fi : M T (List D)) (p : D → M T Unit) (fb : M T Out) : M T Out := mBind fi fun items => mForL (fun d => mBind (mBlk (p d)) fun _ => fb) items
def mWhileN {T : Type} (c : M T Bool) (b : M T Out) : Nat → M T Out
  | 0 => fun _ => .stuck
  | n + 1 => mBind c fun k => match k with
    | false => mRet .nx
    | true => mBind b fun o => match o with
      | .nx => mWhileN c b n
      | .ct => mWhileN c b n
      | .bk => mRet .nx
      | .ret v => mRet (.ret v)
def mWhile {T : Type} (μ : S T → Nat) (c : M T Bool) (b : M T Out) : M T Out := fun s => mWhileN c b (μ s) s
def asI0 : D → Option Int
  | .int i => some i
  | _ => none
def mAug {T : Type} (i : Nat) (op : D → D → Option D) (f : M T D) : M T Out := mBind (mOp op (mVar i) f) fun d s => .ok .nx ⟨s.env.set i (.fz d), s.t⟩

section
variable {T : Type} {C : Ct T} {W : WX} {F0 H0 F F1 H : Hp} {L : Nat → Option Addr} {s : S T} {σ : L2.St} {α β : Type}
def PoS (C : Ct T) (W : WX) (F0 H0 : Hp) (L : Nat → Option Addr) (F : Hp) (E : Ends) : Res T Out → Prop
  | .ok .nx s' => ∀ σ' F' H', Good C F0 H0 L s' σ' F' H' → Same F F' → E.nx σ' H'
  | .ok .bk s' => ∀ σ' F' H', Good C F0 H0 L s' σ' F' H' → Same F F' → E.bk σ' H'
  | .ok .ct s' => ∀ σ' F' H', Good C F0 H0 L s' σ' F' H' → Same F F' → E.ct σ' H'
  | .ok (.ret d) s' => ∀ v σ' F' H', Good C F0 H0 L s' σ' F' H' → Same F F' → Rep C.K F' v d → E.rt v H'
  | .exc c s' => ∀ σ' F' H', Good C F0 H0 L s' σ' F' H' → Same F F' → W (.ref (C.cls c)) none σ' H'
  | .stuck => False
def Sb (C : Ct T) (W : WX) (t : TS) (f : M T Out) : Prop := ∀ F0 H0 L s σ F H (E : Ends), Good C F0 H0 L s σ F H → PoS C W F0 H0 L F E (f s) → t E σ H
theorem pos_from {E : Ends} {r : Res T Out} (h : PoS C W F0 H0 L F E r) (e : Same F F1) : PoS C W F0 H0 L F1 E r := by
  cases r with
  | ok a s' => cases a with
    | nx => exact fun σ' F' H' g e' => h σ' F' H' g (e.trans e')
    | bk => exact fun σ' F' H' g e' => h σ' F' H' g (e.trans e')
    | ct => exact fun σ' F' H' g e' => h σ' F' H' g (e.trans e')
    | ret d => exact fun v σ' F' H' g e' => h v σ' F' H' g (e.trans e')
  | exc c s' => exact fun σ' F' H' g e' => h σ' F' H' g (e.trans e')
  | stuck => exact h
theorem pos_bind {m : M T α} {f : α → M T Out} {E : Ends} (h : PoS C W F0 H0 L F E (mBind m f s)) : Po C W F0 H0 L F σ (fun a s1 F1 _ => PoS C W F0 H0 L F1 E (f a s1)) (m s) := by
  unfold mBind at h
  cases q : m s with
  | ok a s' =>
    rw [q] at h
    exact fun F' H' g e' => pos_from h e'
  | exc c s' =>
    rw [q] at h
    exact fun F' H' g e' => h σ F' H' g e'
  | stuck =>
    rw [q] at h
    exact h
/-- a statement ahead of the rest -/
theorem pos_seq {m : M T Out} {f : Out → M T Out} {E E' : Ends} (h : PoS C W F0 H0 L F E (mBind m f s))
    (h1 : ∀ s' σ' F' H', PoS C W F0 H0 L F' E (f .nx s') → Good C F0 H0 L s' σ' F' H' → Same F F' → E'.nx σ' H')
    (h2 : ∀ s' σ' F' H', PoS C W F0 H0 L F' E (f .bk s') → Good C F0 H0 L s' σ' F' H' → Same F F' → E'.bk σ' H')
    (h3 : ∀ s' σ' F' H', PoS C W F0 H0 L F' E (f .ct s') → Good C F0 H0 L s' σ' F' H' → Same F F' → E'.ct σ' H')
    (h4 : ∀ d s' v σ' F' H', PoS C W F0 H0 L F' E (f (.ret d) s') → Good C F0 H0 L s' σ' F' H' → Same F F' → Rep C.K F' v d → E'.rt v H') : PoS C W F0 H0 L F E' (m s) := by
  unfold mBind at h
  cases q : m s with
  | ok a s' =>
    rw [q] at h
    cases a with
    | nx => exact fun σ' F' H' g e' => h1 s' σ' F' H' (pos_from h e') g e'
    | bk => exact fun σ' F' H' g e' => h2 s' σ' F' H' (pos_from h e') g e'
    | ct => exact fun σ' F' H' g e' => h3 s' σ' F' H' (pos_from h e') g e'
    | ret d => exact fun v σ' F' H' g e' r => h4 d s' v σ' F' H' (pos_from h e') g e' r
  | exc c s' =>
    rw [q] at h
    exact h
  | stuck =>
    rw [q] at h
    exact h
variable {t u : TS} {f f' : M T Out} {te : TE} {fe : M T D} {tc : TT} {fc : M T Bool}
theorem sb_next : Sb C W tNext (mRet .nx) := fun F0 H0 L s σ F H E g h => h σ F H g (Same.refl F)
theorem sb_break : Sb C W tBreak (mRet .bk) := fun F0 H0 L s σ F H E g h => h σ F H g (Same.refl F)
theorem sb_cont : Sb C W tCont (mRet .ct) := fun F0 H0 L s σ F H E g h => h σ F H g (Same.refl F)
theorem sb_seq (h1 : Sb C W t f) (h2 : Sb C W u f') : Sb C W (tSeq t u) (mSeq f f') := by
  intro F0 H0 L s σ F H E g h
  refine h1 _ _ _ _ _ _ _ _ g (pos_seq h (fun s' σ' F' H' k g' e' => h2 _ _ _ _ _ _ _ _ g' k) (fun s' σ' F' H' k g' e' => ?_) (fun s' σ' F' H' k g' e' => ?_) (fun d s' v σ' F' H' k g' e' r => ?_))
  · exact k σ' F' H' g' (Same.refl _)
  · exact k σ' F' H' g' (Same.refl _)
  · exact k v σ' F' H' g' (Same.refl _) r
theorem sb_ret (h : Sv C W te fe) : Sb C W (tRet te) (mReturn fe) := by
  intro F0 H0 L s σ F H E g k
  exact h _ _ _ _ _ _ _ _ g (po_imp (pos_bind k) fun d s1 F1 H1 g1 e1 k1 v rv => k1 v σ F1 H1 g1 (Same.refl _) rv)
theorem sb_retN : Sb C W tRetN (mRet (.ret .none)) := fun F0 H0 L s σ F H E g h => h .non σ F H g (Same.refl F) .non
theorem sb_expr (h : Sv C W te fe) : Sb C W (tDrop te) (mExpr fe) := by
  intro F0 H0 L s σ F H E g k
  exact h _ _ _ _ _ _ _ _ g (po_imp (pos_bind k) fun d s1 F1 H1 g1 e1 k1 v rv => k1 σ F1 H1 g1 (Same.refl _))
theorem sb_if (h : Stt C W tc fc) (h1 : Sb C W t f) (h2 : Sb C W u f') : Sb C W (tIfS tc t u) (mIf fc f f') := by
  intro F0 H0 L s σ F H E g k
  refine h _ _ _ _ _ _ _ _ g (po_imp (pos_bind k) fun b s1 F1 H1 g1 e1 k1 => ?_)
  cases b with
  | true => exact iteT (h1 _ _ _ _ _ _ _ _ g1 k1)
  | false => exact iteF (h2 _ _ _ _ _ _ _ _ g1 k1)
theorem SlotV.ok {x : Slot} {v : V} {i : Nat} (h : SlotV C H0 s σ F H v x) : SlotOk C H0 L i F H x (some (some v)) ∧ ∀ p, x.owned = true → v = .ref p → Tmp C H0 s σ F H p := by
  cases x with
  | un => exact ⟨trivial, fun _ z => by cases z⟩
  | fz d => exact ⟨⟨v, rfl, h⟩, fun _ z => by cases z⟩
  | ol xs =>
    obtain ⟨p, vs, rfl, t, h1, h2⟩ := h
    exact ⟨⟨p, vs, rfl, t.f, t.h0, h1, h2⟩, fun q _ e => by cases e; exact t⟩
  | od xs =>
    obtain ⟨p, vs, rfl, t, h1, h2⟩ := h
    exact ⟨⟨p, vs, rfl, t.f, t.h0, h1, h2⟩, fun q _ e => by cases e; exact t⟩
  | pt n => exact ⟨congrArg (fun z => some (some z)) h, fun _ z => by cases z⟩
  | bw xs => exact h.elim
theorem Good.setV (g : Good C F0 H0 L s σ F H) (i : Nat) {x : Slot} {v : V} (h : SlotV C H0 s σ F H v x) : Good C F0 H0 L ⟨s.env.set i x, s.t⟩ (σ.set i (some v)) F H :=
  g.set i (h.ok (L := L) (i := i)).1 fun p o e j y hj hy oy => ((h.ok (L := L) (i := i)).2 p o e).no j y hy oy
theorem sb_set {f : M T Slot} (i : Nat) (h : Se C W te f) : Sb C W (tAsg te (gName i)) (mSet i f) := by
  intro F0 H0 L s σ F H E g k
  exact h _ _ _ _ _ _ _ _ g (po_imp (pos_bind k) fun x s1 F1 H1 g1 e1 k1 v rv => k1 _ F1 H1 (g1.setV i rv) (Same.refl _))
theorem sg_use {tg : TG} {is : List Nat} {p : D → M T Unit} {E : Ends} {m : M T Out} {d : D} {v : V} (hg : Sg C tg is p) (g : Good C F0 H0 L s σ F H) (r : Rep C.K F v d) (k : PoS C W F0 H0 L F E (mBind (mBlk (p d)) (fun _ => m) s)) {Q : L2.St → Hp → Prop}
    (q : ∀ s' σ', Good C F0 H0 L s' σ' F H → PoS C W F0 H0 L F E (m s') → Q σ' H) : tg v σ H Q := by
  refine hg _ _ _ _ _ _ _ _ _ _ g r ?_
  unfold mBind mBlk at k
  cases e : p d s with
  | ok a s' =>
    simp only [e] at k ⊢
    exact fun σ' g' _ => q s' σ' g' k
  | exc c s' => simp only [e] at k; exact k.elim
  | stuck => simp only [e] at k; exact k.elim
theorem sb_setG {tg : TG} {is : List Nat} {p : D → M T Unit} (h : Sv C W te fe) (hg : Sg C tg is p) : Sb C W (tAsg te tg) (mSetG p fe) := by
  intro F0 H0 L s σ F H E g k
  exact h _ _ _ _ _ _ _ _ g (po_imp (pos_bind k) fun d s1 F1 H1 g1 e1 k1 v rv => sg_use hg g1 rv k1 fun s' σ' g' k' => k' σ' F1 H1 g' (Same.refl _))
/-- x op= e -/
theorem sb_aug {i : Nat} {op : D → D → Option D} {r : R2} (h : Sv C W te fe) (hr : Rv C r op) : Sb C W (tAug i te r) (mAug i op fe) := by
  intro F0 H0 L s σ F H E g k
  obtain ⟨v, hv, q⟩ := sv_var (C := C) (W := W) i _ _ _ _ _ _ _ (fun v H1 => te σ H1 fun y H2 => r v y H2 fun z H3 => E.nx (σ.set i (some z)) H3) g (by
    refine po_imp (po_bind (pos_bind k)) fun a s1 F1 H1 g1 e1 h1 v rv => ?_
    refine h _ _ _ _ _ _ _ _ g1 (po_imp (po_bind h1) fun b s2 F2 H2 g2 e2 h2 w rw' => ?_)
    obtain ⟨d, q, h3⟩ := po_lift h2
    refine hr _ _ _ _ _ _ _ _ _ _ _ _ g2 (rv.mono e2) rw' ?_
    rw [q]
    intro z F3 H3 g3 e3 rz
    exact h3 F3 H3 g3 e3 _ F3 H3 (g3.setFz i rz) (Same.refl _))
  exact ⟨v, hv, q⟩
/-- for -/
theorem sb_for_at {wi : TI} {fi : M T (List D)} {tg : TG} {is : List Nat} {p : D → M T Unit} {F0 H0 : Hp} {L : Nat → Option Addr} {s : S T} {σ : L2.St} {F H : Hp} {E : Ends}
    (hi : ∀ R : It → Hp → Prop, Po C W F0 H0 L F σ (fun items _ F' H' => ∀ J, ItOk C.K F' (Bs C H0) J items → R J H') (fi s) → wi σ H R) (hg : Sg C tg is p) (hb : Sb C W t f) (k : PoS C W F0 H0 L F E (mFor fi p f s)) : tFor wi tg t E σ H := by
  refine hi _ (po_imp (pos_bind k) fun items s1 F1 H1 g1 e1 k1 J it => ?_)
  obtain ⟨G, Y, w, hG, hY⟩ := it.ok
  refine for_it w (fun i σ' H' => ∃ s' F', Good C F0 H0 L s' σ' F' H' ∧ Same F1 F' ∧ PoS C W F0 H0 L F' E (mForL (fun d => mBind (mBlk (p d)) fun _ => f) (items.drop i) s')) ⟨s1, F1, g1, Same.refl _, k1⟩ (fun i σ' H' _ ⟨s', F', g', e', _⟩ => hG F' H' e' g'.sub g'.base) ?_ ?_
  · rintro i x σ2 H2 H3 hi' ⟨s2, F2, g2, e2, k2⟩ y
    have hd : items[i]? = some items[i] := by simp [hi']
    have hdrop : items.drop i = items[i] :: items.drop (i + 1) := List.drop_eq_getElem_cons hi'
    rw [hdrop] at k2
    -- the item, its pair frozen
    obtain ⟨F3, g3, e3, r3⟩ : ∃ F3, Good C F0 H0 L s2 σ2 F3 H3 ∧ Same F2 F3 ∧ Rep C.K F3 x items[i] := by
      rcases hY i x F2 H2 H3 _ e2 g2.sub hd y with ⟨rfl, r⟩ | ⟨tp, a, b, da, db, rfl, hn, rfl, ra, rb, ed⟩
      · exact ⟨F2, g2, Same.refl _, r⟩
      · have e := Same.updN (o := HO.tup [a, b]) (g2.sub.nn hn)
        rw [ed]
        exact ⟨_, g2.allocF hn, e, .tup (.inl (.inl upd_same)) (.cons (ra.mono e) (.cons (rb.mono e) .nil))⟩
    have k3 : PoS C W F0 H0 L F3 E (mBind (mBlk (p items[i])) (fun _ s => mBind f (fun o => match o with
      | .nx => mForL (fun d => mBind (mBlk (p d)) fun _ => f) (items.drop (i + 1))
      | .ct => mForL (fun d => mBind (mBlk (p d)) fun _ => f) (items.drop (i + 1))
      | .bk => mRet .nx
      | .ret v => mRet (.ret v)) s) s2) := by
      have q := pos_from k2 e3
      have eq : ∀ (m : M T Unit) (h : Out → M T Out), mBind (mBind m fun _ => f) h s2 = mBind m (fun _ => mBind f h) s2 := fun m h => by
        unfold mBind
        cases m s2 <;> rfl
      have q' : PoS C W F0 H0 L F3 E (mBind (mBind (mBlk (p items[i])) fun _ => f) (fun o => match o with
        | .nx => mForL (fun d => mBind (mBlk (p d)) fun _ => f) (items.drop (i + 1))
        | .ct => mForL (fun d => mBind (mBlk (p d)) fun _ => f) (items.drop (i + 1))
        | .bk => mRet .nx
        | .ret v => mRet (.ret v)) s2) := q
      rw [eq] at q'
      exact q'
    refine sg_use hg g3 r3 k3 fun s4 σ4 g4 k4 => ?_
    refine hb _ _ _ _ _ _ _ _ g4 (pos_seq k4 (fun s' σ' F' H' k g' e' => ?_) (fun s' σ' F' H' k g' e' => ?_) (fun s' σ' F' H' k g' e' => ?_) (fun d s' v σ' F' H' k g' e' r => ?_))
    · exact ⟨s', F', g', (e2.trans e3).trans e', k⟩
    · exact k σ' F' H' g' (Same.refl _)
    · exact ⟨s', F', g', (e2.trans e3).trans e', k⟩
    · exact k v σ' F' H' g' (Same.refl _) r
  · rintro σ2 H2 ⟨s2, F2, g2, e2, k2⟩
    rw [List.drop_eq_nil_of_le (Nat.le_refl _)] at k2
    exact k2 σ2 F2 H2 g2 (Same.refl _)
theorem sb_for {wi : TI} {fi : M T (List D)} {tg : TG} {is : List Nat} {p : D → M T Unit} (hi : Si C W wi fi) (hg : Sg C tg is p) (hb : Sb C W t f) : Sb C W (tFor wi tg t) (mFor fi p f) := fun F0 H0 L s σ F H E g k => sb_for_at (fun R h => hi _ _ _ _ _ _ _ R g h) hg hb k
/-- while -/
theorem sb_while (μ : S T → Nat) (hc : Stt C W tc fc) (hb : Sb C W t f) : Sb C W (tWhile tc t) (mWhile μ fc f) := by
  intro F0 H0 L s σ F H E g k
  refine ⟨fun m σ' H' => ∃ s' F', Good C F0 H0 L s' σ' F' H' ∧ PoS C W F0 H0 L F' E (mWhileN fc f m s'), ⟨_, s, F, g, k⟩, ?_⟩
  rintro m σ1 H1 ⟨s1, F1, g1, k1⟩
  cases m with
  | zero => exact k1.elim
  | succ m =>
    refine hc _ _ _ _ _ _ _ _ g1 (po_imp (pos_bind k1) fun b s2 F2 H2 g2 e2 k2 => ?_)
    cases b with
    | false => exact iteF (k2 σ1 F2 H2 g2 (Same.refl _))
    | true =>
      refine iteT ⟨fun σ' H' => ∃ s' F', Good C F0 H0 L s' σ' F' H' ∧ PoS C W F0 H0 L F' E (mWhileN fc f m s'), fun σ' H' q => ⟨m, Nat.lt_succ_self _, q⟩, ?_⟩
      refine hb _ _ _ _ _ _ _ _ g2 (pos_seq k2 (fun s' σ' F' H' k g' e' => ?_) (fun s' σ' F' H' k g' e' => ?_) (fun s' σ' F' H' k g' e' => ?_) (fun d s' v σ' F' H' k g' e' r => ?_))
      · exact ⟨s', F', g', k⟩
      · exact k σ' F' H' g' (Same.refl _)
      · exact ⟨s', F', g', k⟩
      · exact k v σ' F' H' g' (Same.refl _) r
end
end Pm

set_option Elab.async false
set_option linter.all false
set_option maxRecDepth 100000
/-! Argument lists of slots; several stores at once; list comprehensions; defs. -/
namespace Pm
open PySem L2 RZ

section
variable {T : Type} {C : Ct T} {W : WX} {F0 H0 F F1 H : Hp} {L : Nat → Option Addr} {s : S T} {σ : L2.St} {α β : Type}
def SlotVs (C : Ct T) (H0 : Hp) (s : S T) (σ : L2.St) (F H : Hp) : List V → List Slot → Prop
  | [], [] => True
  | v :: vs, x :: xs => SlotV C H0 s σ F H v x ∧ SlotVs C H0 s σ F H vs xs ∧ (x.owned = true → ∀ (j : Nat) (y : Slot), xs[j]? = some y → y.owned = true → vs[j]? ≠ some v)
  | _, _ => False
theorem SlotVs.length : ∀ {vs : List V} {xs : List Slot}, SlotVs C H0 s σ F H vs xs → vs.length = xs.length
  | [], [], _ => rfl
  | _ :: _, _ :: _, h => congrArg Nat.succ (SlotVs.length h.2.1)
  | [], _ :: _, h => h.elim
  | _ :: _, [], h => h.elim
theorem SlotVs.at : ∀ {vs : List V} {xs : List Slot} {j : Nat} {y : Slot}, SlotVs C H0 s σ F H vs xs → xs[j]? = some y → ∃ w, vs[j]? = some w ∧ SlotV C H0 s σ F H w y
  | [], [], _, _, _, h => by simp at h
  | v :: vs, x :: xs, 0, y, q, h => by
    simp at h; subst h
    exact ⟨v, rfl, q.1⟩
  | v :: vs, x :: xs, j + 1, y, q, h => by
    obtain ⟨w, h1, h2⟩ := SlotVs.at (j := j) q.2.1 (by simpa using h)
    exact ⟨w, by simpa using h1, h2⟩
  | [], _ :: _, _, _, h, _ => h.elim
  | _ :: _, [], _, _, h, _ => h.elim
def Sas (C : Ct T) (W : WX) (t : TA) (f : M T (List Slot)) : Prop := ∀ F0 H0 L s σ F H (Q : List V → Hp → Prop), Good C F0 H0 L s σ F H → Po C W F0 H0 L F σ (fun xs s' F' H' => ∀ vs, SlotVs C H0 s' σ F' H' vs xs → Q vs H') (f s) → t σ H Q
/-- a value as a slot's content is held while other things go on -/
theorem hold {x : Slot} {v : V} (g : Good C F0 H0 L s σ F H) (h : SlotV C H0 s σ F H v x) : ∃ H1, Good C F0 H1 L s σ F H ∧
    (∀ s' F' H', Good C F0 H1 L s' σ F' H' → Same F F' → Good C F0 H0 L s' σ F' H' ∧ SlotV C H0 s' σ F' H' v x) ∧
    ∀ s' F' H' w y, Good C F0 H1 L s' σ F' H' → SlotV C H1 s' σ F' H' w y → SlotV C H0 s' σ F' H' w y ∧ (x.owned = true → y.owned = true → w ≠ v) := by
  have plain : (x.owned = false) → (∀ s' F' H', Same F F' → SlotV C H0 s' σ F' H' v x) → ∃ H1, Good C F0 H1 L s σ F H ∧
    (∀ s' F' H', Good C F0 H1 L s' σ F' H' → Same F F' → Good C F0 H0 L s' σ F' H' ∧ SlotV C H0 s' σ F' H' v x) ∧
    ∀ s' F' H' w y, Good C F0 H1 L s' σ F' H' → SlotV C H1 s' σ F' H' w y → SlotV C H0 s' σ F' H' w y ∧ (x.owned = true → y.owned = true → w ≠ v) :=
    fun ho k => ⟨H0, g, fun s' F' H' g' e => ⟨g', k s' F' H' e⟩, fun s' F' H' w y g' h' => ⟨h', fun z => by rw [ho] at z; cases z⟩⟩
  have own : ∀ (p : Addr) (o : HO), (∀ xs, o ≠ .tup xs) → v = .ref p → Tmp C H0 s σ F H p → H p = some o → (∀ s' F' H', Same F F' → Tmp C H0 s' σ F' H' p → H' p = some o → SlotV C H0 s' σ F' H' v x) → ∃ H1, Good C F0 H1 L s σ F H ∧
    (∀ s' F' H', Good C F0 H1 L s' σ F' H' → Same F F' → Good C F0 H0 L s' σ F' H' ∧ SlotV C H0 s' σ F' H' v x) ∧
    ∀ s' F' H' w y, Good C F0 H1 L s' σ F' H' → SlotV C H1 s' σ F' H' w y → SlotV C H0 s' σ F' H' w y ∧ (x.owned = true → y.owned = true → w ≠ v) := fun p o hto ev t hp k => by
    have f0 : F0 p = none := Same.free g.ext0 t.f
    have pf : p ∉ C.fp := fun z => g.fp0 p z t.h0
    have up : ∀ a, (upd H0 p o) a = none → H0 a = none ∧ a ≠ p := fun a e => by
      by_cases hn : a = p
      · subst hn; rw [upd_same] at e; cases e
      · rw [upd_ne hn] at e; exact ⟨e, hn⟩
    refine ⟨upd H0 p o, g.protect t hp, fun s' F' H' g' e => ?_, fun s' F' H' w y g' h' => ?_⟩
    · obtain ⟨g2, t2, h2⟩ := g'.unprotect t.h0 f0 pf g.lH hto
      exact ⟨g2, k s' F' H' e t2 h2⟩
    · cases y with
      | un => exact ⟨trivial, fun _ z => by cases z⟩
      | fz d => exact ⟨h', fun _ z => by cases z⟩
      | pt n => exact ⟨h', fun _ z => by cases z⟩
      | bw xs => exact h'.elim
      | ol xs =>
        obtain ⟨q, vs, e1, t1, h1, h2⟩ := h'
        refine ⟨⟨q, vs, e1, ⟨t1.f, (up q t1.h0).1, t1.no⟩, h1, h2⟩, fun _ _ e => ?_⟩
        rw [e1, ev] at e
        exact (up q t1.h0).2 (V.ref.inj e)
      | od xs =>
        obtain ⟨q, vs, e1, t1, h1, h2⟩ := h'
        refine ⟨⟨q, vs, e1, ⟨t1.f, (up q t1.h0).1, t1.no⟩, h1, h2⟩, fun _ _ e => ?_⟩
        rw [e1, ev] at e
        exact (up q t1.h0).2 (V.ref.inj e)
  cases x with
  | un => exact plain rfl fun _ _ _ _ => trivial
  | fz d => exact plain rfl fun _ _ _ e => Rep.mono e h
  | pt n => exact plain rfl fun _ _ _ _ => h
  | bw xs => exact h.elim
  | ol xs =>
    obtain ⟨p, vs, e1, t, h1, h2⟩ := h
    exact own p (.lst vs) (fun _ z => nomatch z) e1 t h1 fun s' F' H' e t' h' => ⟨p, vs, e1, t', h', h2.mono e⟩
  | od xs =>
    obtain ⟨p, vs, e1, t, h1, h2⟩ := h
    exact own p (.dK vs) (fun _ z => nomatch z) e1 t h1 fun s' F' H' e t' h' => ⟨p, vs, e1, t', h', h2.mono e⟩
theorem po_hold {G : α → S T → Hp → Hp → Prop} {H1 : Hp} {r : Res T α} (h : Po C W F0 H0 L F σ G r) (k : ∀ s' F' H', Good C F0 H1 L s' σ F' H' → Same F F' → Good C F0 H0 L s' σ F' H') : Po C W F0 H1 L F σ G r := by
  cases r with
  | ok a s' => exact fun F' H' g e => h F' H' (k s' F' H' g e) e
  | exc c s' => exact fun F' H' g e => h F' H' (k s' F' H' g e) e
  | stuck => exact h
def mSNil {T : Type} : M T (List Slot) := mRet []
def mSCons {T : Type} (f : M T Slot) (fr : M T (List Slot)) : M T (List Slot) := mBind f fun x => mBind fr fun xs => mRet (x :: xs)
theorem sas_nil : Sas C W tNil mSNil := fun F0 H0 L s σ F H Q g h => po_ret h g [] trivial
theorem sas_cons {te : TE} {tr : TA} {f : M T Slot} {fr : M T (List Slot)} (ha : Se C W te f) (hr : Sas C W tr fr) : Sas C W (tCons te tr) (mSCons f fr) := by
  intro F0 H0 L s σ F H Q g h
  refine ha _ _ _ _ _ _ _ _ g (po_imp (po_bind h) fun x s1 F1 H1 g1 e1 h1 v rv => ?_)
  obtain ⟨H2, g2, k1, k2⟩ := hold g1 rv
  refine hr _ _ _ _ _ _ _ _ g2 (po_imp (po_hold (po_bind h1) fun s' F' H' g' e' => (k1 s' F' H' g' e').1) fun xs s3 F3 H3 g3 e3 h3 vs rs => ?_)
  obtain ⟨g4, rv4⟩ := k1 s3 F3 H3 g3 e3
  refine po_ret h3 g4 _ ⟨rv4, ?_, fun ho j y hy oy e => ?_⟩
  · have conv : ∀ (vs : List V) (xs : List Slot), SlotVs C H2 s3 σ F3 H3 vs xs → SlotVs C H0 s3 σ F3 H3 vs xs := by
      intro vs
      induction vs with
      | nil => intro xs h; cases xs with
        | nil => trivial
        | cons _ _ => exact h.elim
      | cons w ws ih => intro xs h; cases xs with
        | nil => exact h.elim
        | cons y ys => exact ⟨(k2 s3 F3 H3 w y g3 h.1).1, ih ys h.2.1, h.2.2⟩
    exact conv vs xs rs
  · obtain ⟨w, hw, rw'⟩ := rs.at hy
    rw [e] at hw; cases hw
    exact (k2 s3 F3 H3 v y g3 rw').2 ho oy rfl
/-- several slots stored -/
theorem Good.setMany : ∀ (is : List Nat) (vs : List V) (xs : List Slot) {s : S T} {σ : L2.St}, Good C F0 H0 L s σ F H → SlotVs C H0 s σ F H vs xs →
    Good C F0 H0 L ⟨(is.zip xs).foldl (fun e p => e.set p.1 p.2) s.env, s.t⟩ ((is.zip vs).foldl (fun e p => e.set p.1 (some p.2)) σ) F H
  | [], _, _, _, _, g, _ => by simpa using g
  | _ :: _, [], [], _, _, g, _ => by simpa using g
  | _ :: _, [], _ :: _, _, _, _, h => h.elim
  | _ :: _, _ :: _, [], _, _, _, h => h.elim
  | i :: is, v :: vs, x :: xs, s, σ, g, h => by
    have g1 := g.setV i h.1
    have ne : x.owned = true → ∀ (j : Nat) (y : Slot), xs[j]? = some y → y.owned = true → vs[j]? ≠ some v := h.2.2
    have conv : ∀ (vs : List V) (xs : List Slot), (x.owned = true → ∀ (j : Nat) (y : Slot), xs[j]? = some y → y.owned = true → vs[j]? ≠ some v) → SlotVs C H0 s σ F H vs xs → SlotVs C H0 ⟨s.env.set i x, s.t⟩ (σ.set i (some v)) F H vs xs := by
      intro vs
      induction vs with
      | nil => intro xs _ h; cases xs with
        | nil => trivial
        | cons _ _ => exact h.elim
      | cons w ws ih => intro xs hne h; cases xs with
        | nil => exact h.elim
        | cons y ys =>
          have tm : ∀ p, y.owned = true → w = .ref p → Tmp C H0 s σ F H p → Tmp C H0 ⟨s.env.set i x, s.t⟩ (σ.set i (some v)) F H p := fun p oy ew t => ⟨t.f, t.h0, fun j z hz oz => by
            by_cases e : i = j
            · subst e
              by_cases hl : i < s.env.length
              · rw [List.getElem?_set_self hl] at hz
                cases hz
                rw [List.getElem?_set_self (by rw [← g.len]; exact hl)]
                intro q
                have q1 : v = .ref p := Option.some.inj (Option.some.inj q)
                exact hne oz 0 y rfl oy (by rw [q1, ← ew]; rfl)
              · rw [List.getElem?_eq_none (by simpa using hl)] at hz; cases hz
            · rw [List.getElem?_set_ne e] at hz ⊢
              exact t.no j z hz oz⟩
          refine ⟨?_, ih ys (fun ox j z hz oz => hne ox (j + 1) z hz oz) h.2.1, h.2.2⟩
          have k := h.1
          cases y with
          | un => trivial
          | fz d => exact k
          | pt n => exact k
          | bw xs => exact k.elim
          | ol xs =>
            obtain ⟨q, vs, e1, t1, h1, h2⟩ := k
            exact ⟨q, vs, e1, tm q rfl e1 t1, h1, h2⟩
          | od xs =>
            obtain ⟨q, vs, e1, t1, h1, h2⟩ := k
            exact ⟨q, vs, e1, tm q rfl e1 t1, h1, h2⟩
    exact Good.setMany is vs xs g1 (conv vs xs ne h.2.1)
theorem sb_par {i j : Nat} {ta : TA} {f : M T (List Slot)} (h : Sas C W ta f) : Sb C W (tPar i j ta) (mSets f [i, j]) := by
  intro F0 H0 L s σ F H E g k
  refine h _ _ _ _ _ _ _ _ g (po_imp (pos_bind k) fun xs s1 F1 H1 g1 e1 k1 vs rv => ?_)
  by_cases hl : xs.length = 2 ∧ xs.length ≤ 1000
  · simp only [List.length_cons, List.length_nil] at k1
    rw [if_pos hl] at k1
    have g2 := Good.setMany [i, j] vs xs g1 rv
    have hv := rv.length
    match vs, xs, hl, hv, g2, k1, rv with
    | [v, w], [x, y], _, _, g2, k1, _ => exact ⟨v, w, rfl, k1 _ F1 H1 g2 (Same.refl _)⟩
    | [], _, hl, hv, _, _, _ => simp at hv; omega
    | [_], _, hl, hv, _, _, _ => simp at hv; omega
    | _ :: _ :: _ :: _, _, hl, hv, _, _, _ => simp at hv; omega
    | [_, _], [], hl, hv, _, _, _ => simp at hv
    | [_, _], [_], hl, hv, _, _, _ => simp at hv
    | [_, _], _ :: _ :: _ :: _, hl, hv, _, _, _ => simp at hl
  · simp only [List.length_cons, List.length_nil] at k1
    rw [if_neg hl] at k1
    exact k1.elim
theorem sb_par3 {i j l : Nat} {ta : TA} {f : M T (List Slot)} (h : Sas C W ta f) : Sb C W (tPar3 i j l ta) (mSets f [i, j, l]) := by
  intro F0 H0 L s σ F H E g k
  refine h _ _ _ _ _ _ _ _ g (po_imp (pos_bind k) fun xs s1 F1 H1 g1 e1 k1 vs rv => ?_)
  by_cases hl : xs.length = 3 ∧ xs.length ≤ 1000
  · simp only [List.length_cons, List.length_nil] at k1
    rw [if_pos hl] at k1
    have g2 := Good.setMany [i, j, l] vs xs g1 rv
    have hv := rv.length
    match vs, xs, hl, hv, g2, k1, rv with
    | [u, v, w], [x, y, z], _, _, g2, k1, _ => exact ⟨u, v, w, rfl, k1 _ F1 H1 g2 (Same.refl _)⟩
    | [], _, hl, hv, _, _, _ => simp at hv; omega
    | [_], _, hl, hv, _, _, _ => simp at hv; omega
    | [_, _], _, hl, hv, _, _, _ => simp at hv; omega
    | _ :: _ :: _ :: _ :: _, _, hl, hv, _, _, _ => simp at hv; omega
    | [_, _, _], [], hl, hv, _, _, _ => simp at hv
    | [_, _, _], [_], hl, hv, _, _, _ => simp at hv
    | [_, _, _], [_, _], hl, hv, _, _, _ => simp at hv
    | [_, _, _], _ :: _ :: _ :: _ :: _, hl, hv, _, _, _ => simp at hl
  · simp only [List.length_cons, List.length_nil] at k1
    rw [if_neg hl] at k1
    exact k1.elim
/-- names stored from a tuple that is made on the way -/
def gNames : List Nat → TGs
  | [] => gNil
  | i :: is => gCons (gName i) (gNames is)
theorem gNames_run : ∀ (is : List Nat) (vs : List V) (σ : L2.St) (H : Hp) (Q : L2.St → Hp → Prop), vs.length = is.length → Q ((is.zip vs).foldl (fun e p => e.set p.1 (some p.2)) σ) H → gNames is vs σ H Q
  | [], [], σ, H, Q, _, q => ⟨rfl, q⟩
  | [], _ :: _, _, _, _, h, _ => by simp at h
  | _ :: _, [], _, _, _, h, _ => by simp at h
  | i :: is, v :: vs, σ, H, Q, h, q => ⟨v, vs, rfl, gNames_run is vs (σ.set i (some v)) H Q (by simpa using h) q⟩
theorem SlotVs.alloc {p : Addr} {o : HO} (g : Good C F0 H0 L s σ F H) (hp : H p = none) : ∀ {vs : List V} {xs : List Slot}, SlotVs C H0 s σ F H vs xs → SlotVs C H0 s σ F (upd H p o) vs xs
  | [], [], _ => trivial
  | v :: vs, x :: xs, h => by
    refine ⟨?_, SlotVs.alloc g hp h.2.1, h.2.2⟩
    have k := h.1
    cases x with
    | un => trivial
    | fz d => exact k
    | pt n => exact k
    | bw xs => exact k.elim
    | ol xs =>
      obtain ⟨q, vs, e1, t1, h1, h2⟩ := k
      exact ⟨q, vs, e1, ⟨t1.f, t1.h0, t1.no⟩, by rw [upd_ne (ne_of_none h1 hp)]; exact h1, h2⟩
    | od xs =>
      obtain ⟨q, vs, e1, t1, h1, h2⟩ := k
      exact ⟨q, vs, e1, ⟨t1.f, t1.h0, t1.no⟩, by rw [upd_ne (ne_of_none h1 hp)]; exact h1, h2⟩
  | [], _ :: _, h => h.elim
  | _ :: _, [], h => h.elim
theorem sb_tupset {is : List Nat} {n : Nat} {ta : TA} {f : M T (List Slot)} (hn : n = is.length) (h : Sas C W ta f) : Sb C W (tAsg (tTup ta) (gTup C.K n (gNames is))) (mSets f is) := by
  subst hn
  intro F0 H0 L s σ F H E g k
  refine h _ _ _ _ _ _ _ _ g (po_imp (pos_bind k) fun xs s1 F1 H1 g1 e1 k1 vs rv => ?_)
  by_cases hl : xs.length = is.length ∧ xs.length ≤ 1000
  · rw [if_pos hl] at k1
    have hv := rv.length
    refine ⟨sz_ok (by omega), fun p hp => ⟨p, vs, rfl, .inl (.inl upd_same), by omega, gNames_run is vs _ _ _ (by omega) ?_⟩⟩
    exact k1 _ F1 _ (Good.setMany is vs xs (g1.alloc hp) (rv.alloc g1 hp)) (Same.refl _)
  · rw [if_neg hl] at k1
    exact k1.elim
end
end Pm

set_option Elab.async false
set_option linter.all false
set_option maxRecDepth 100000
/-! List comprehensions; defs. -/
namespace Pm
open PySem L2 RZ

def wipeE (env : List Slot) : List Nat → List Slot
  | [] => env
  | v :: vs => (wipeE env vs).set v .un
def okS : Option Slot → Bool
  | some (.fz _) => true
  | some .un => true
  | _ => false
def okW (env : List Slot) (vs : List Nat) : Bool := vs.all fun v => okS env[v]?
def restE (old new : List Slot) : List Nat → List Slot
  | [] => new
  | v :: vs => (restE old new vs).set v (old.getD v .un)
def mTurn {T : Type} (p : D → M T Unit) (ft : M T Bool) (fe : M T D) (d : D) : M T (Option D) := mBlk (mBind (p d) fun _ => mBind ft fun k => match k with
  | true => mBind fe fun x => mRet (some x)
  | false => mRet none)
def addO (acc : List D) : Option D → List D
  | some x => acc ++ [x]
  | none => acc
def mLcL {T : Type} (vs : List Nat) (f : D → M T (Option D)) : List D → List D → M T (List D)
  | [], acc => mRet acc
  | d :: ds, acc => mBind (f d) fun o s => mLcL vs f ds (addO acc o) ⟨wipeE s.env vs, s.t⟩
def mLc {T : Type} (vs : List Nat) (fi : M T (List D)) (p : D → M T Unit) (ft : M T Bool) (fe : M T D) : M T Slot := mBind fi fun items s =>
  if (okW s.env vs && decide (items.length ≤ lim)) = true then
    match mLcL vs (mTurn p ft fe) items [] ⟨wipeE s.env vs, s.t⟩ with
    | .ok acc s' => .ok (.ol acc) ⟨restE s.env s'.env vs, s'.t⟩
    | _ => .stuck
  else .stuck

section
variable {T : Type} {C : Ct T} {W : WX} {F0 H0 F F1 H : Hp} {L : Nat → Option Addr} {s : S T} {σ : L2.St} {α β : Type}
theorem wipeE_length (env : List Slot) : ∀ vs : List Nat, (wipeE env vs).length = env.length
  | [] => rfl
  | v :: vs => by unfold wipeE; rw [List.length_set, wipeE_length env vs]
theorem restE_length (old new : List Slot) : ∀ vs : List Nat, (restE old new vs).length = new.length
  | [] => rfl
  | v :: vs => by unfold restE; rw [List.length_set, restE_length old new vs]
theorem wipeE_at {env : List Slot} {i : Nat} {x : Slot} : ∀ {vs : List Nat}, (wipeE env vs)[i]? = some x → x = .un ∨ (env[i]? = some x ∧ i ∉ vs)
  | [], h => .inr ⟨h, by simp⟩
  | v :: vs, h => by
    unfold wipeE at h
    by_cases e : v = i
    · subst e
      by_cases hl : v < (wipeE env vs).length
      · rw [List.getElem?_set_self hl] at h; cases h; exact .inl rfl
      · rw [List.getElem?_eq_none (by simpa using hl)] at h; cases h
    · rw [List.getElem?_set_ne e] at h
      rcases wipeE_at h with z | ⟨z, n⟩
      · exact .inl z
      · exact .inr ⟨z, by simp only [List.mem_cons, not_or]; exact ⟨fun q => e q.symm, n⟩⟩
theorem restE_at {old new : List Slot} {i : Nat} {x : Slot} : ∀ {vs : List Nat}, (restE old new vs)[i]? = some x → (i ∈ vs ∧ x = old.getD i .un) ∨ (new[i]? = some x ∧ i ∉ vs)
  | [], h => .inr ⟨h, by simp⟩
  | v :: vs, h => by
    unfold restE at h
    by_cases e : v = i
    · subst e
      by_cases hl : v < (restE old new vs).length
      · rw [List.getElem?_set_self hl] at h; cases h; exact .inl ⟨by simp, rfl⟩
      · rw [List.getElem?_eq_none (by simpa using hl)] at h; cases h
    · rw [List.getElem?_set_ne e] at h
      rcases restE_at h with ⟨z, n⟩ | ⟨z, n⟩
      · exact .inl ⟨List.mem_cons_of_mem _ z, n⟩
      · exact .inr ⟨z, by simp only [List.mem_cons, not_or]; exact ⟨fun q => e q.symm, n⟩⟩
/-- other slots, of which each is nothing, as it was, or a frozen value -/
theorem Good.remix (g : Good C F0 H0 L s σ F H) {env' : List Slot} {σ' : L2.St} (hl : env'.length = σ'.length)
    (h : ∀ (i : Nat) (x : Slot), env'[i]? = some x → x = .un ∨ (s.env[i]? = some x ∧ σ'[i]? = σ[i]?) ∨ ∃ d v, x = .fz d ∧ σ'[i]? = some (some v) ∧ Rep C.K F v d) : Good C F0 H0 L ⟨env', s.t⟩ σ' F H where
  len := hl
  sub := g.sub
  ext0 := g.ext0
  base := g.base
  newF := g.newF
  fp0 := g.fp0
  fpF := g.fpF
  fpH := g.fpH
  lH := g.lH
  slots := fun i x hx => by
    rcases h i x hx with rfl | ⟨h1, h2⟩ | ⟨d, v, rfl, h1, h2⟩
    · trivial
    · have k := g.slots i x h1
      rw [← h2] at k
      exact k
    · exact ⟨v, h1, h2⟩
  sep := fun i j x y p hij hx hy ox oy e1 e2 => by
    rcases h i x hx with rfl | ⟨h1, h2⟩ | ⟨d, v, rfl, _, _⟩
    · cases ox
    · rcases h j y hy with rfl | ⟨h3, h4⟩ | ⟨d, v, rfl, _, _⟩
      · cases oy
      · exact g.sep i j x y p hij h1 h3 ox oy (by rw [← h2]; exact e1) (by rw [← h4]; exact e2)
      · cases oy
    · cases ox
  j := g.j
theorem Tmp.remix {p : Addr} (t : Tmp C H0 s σ F H p) {env' : List Slot} {σ' : L2.St}
    (h : ∀ (i : Nat) (x : Slot), env'[i]? = some x → x = .un ∨ (s.env[i]? = some x ∧ σ'[i]? = σ[i]?) ∨ ∃ d v, x = .fz d ∧ σ'[i]? = some (some v) ∧ Rep C.K F v d) : Tmp C H0 ⟨env', s.t⟩ σ' F H p :=
  ⟨t.f, t.h0, fun i x hx ox e => by
    rcases h i x hx with rfl | ⟨h1, h2⟩ | ⟨d, v, rfl, _, _⟩
    · cases ox
    · exact t.no i x h1 ox (by rw [← h2]; exact e)
    · cases ox⟩
theorem wipe_mix (env : List Slot) (σ : L2.St) (vs : List Nat) : ∀ (i : Nat) (x : Slot), (wipeE env vs)[i]? = some x → x = .un ∨ (env[i]? = some x ∧ (wipe σ vs)[i]? = σ[i]?) ∨ ∃ d v, x = .fz d ∧ (wipe σ vs)[i]? = some (some v) ∧ Rep C.K F v d := fun i x h => by
  rcases wipeE_at h with z | ⟨z, n⟩
  · exact .inl z
  · exact .inr (.inl ⟨z, wipe_other n⟩)
theorem Good.wiped (g : Good C F0 H0 L s σ F H) (vs : List Nat) : Good C F0 H0 L ⟨wipeE s.env vs, s.t⟩ (wipe σ vs) F H := g.remix (by rw [wipeE_length, wipe_length, g.len]) (wipe_mix s.env σ vs)
/-- the temporary is changed -/
theorem Good.updTmp (g : Good C F0 H0 L s σ F H) {p : Addr} {o : HO} (t : Tmp C H0 s σ F H p) : Good C F0 H0 L s σ F (upd H p o) where
  len := g.len
  sub := fun a o' e => by
    rw [upd_ne (ne_of_none e t.f)]
    exact g.sub a o' e
  ext0 := g.ext0
  base := fun a o' e z => by
    rw [upd_ne (ne_of_none e t.h0)]
    exact g.base a o' e z
  newF := g.newF
  fp0 := g.fp0
  fpF := g.fpF
  fpH := fun a z => by
    rw [upd_ne (fun y => g.fp0 a z (by rw [y]; exact t.h0))]
    exact g.fpH a z
  lH := g.lH
  slots := fun i x hx => by
    have k := g.slots i x hx
    cases x with
    | un => trivial
    | fz d => exact k
    | pt n => exact k
    | bw xs => exact k
    | ol xs =>
      obtain ⟨q, vs, h1, h2, h3, h4, h5⟩ := k
      refine ⟨q, vs, h1, h2, h3, ?_, h5⟩
      rw [upd_ne (fun y => t.no i _ hx rfl (by rw [h1, y]))]
      exact h4
    | od xs =>
      obtain ⟨q, vs, h1, h2, h3, h4, h5⟩ := k
      refine ⟨q, vs, h1, h2, h3, ?_, h5⟩
      rw [upd_ne (fun y => t.no i _ hx rfl (by rw [h1, y]))]
      exact h4
  sep := g.sep
  j := C.stab s.t F H F _ g.j (Same.refl F) fun a z => upd_ne fun y => g.fp0 a z (by rw [y]; exact t.h0)
theorem wipe_wipe {vs : List Nat} : wipe (wipe σ vs) vs = wipe σ vs := by
  apply List.ext_getElem?
  intro j
  by_cases hj : j ∈ vs
  · rw [wipe_none hj, wipe_none hj, wipe_length]
  · rw [wipe_other hj]
abbrev W0 : WX := fun _ _ _ _ => False
theorem se_lc_at {wi : TI} {fi : M T (List D)} {tg : TG} {is : List Nat} {p : D → M T Unit} {tt : TT} {ft : M T Bool} {te : TE} {fe : M T D} {vs : List Nat} {F0 H0 : Hp} {L : Nat → Option Addr} {s : S T} {σ : L2.St} {F H : Hp} {Q : VK}
    (hi : ∀ R : It → Hp → Prop, Po C W F0 H0 L F σ (fun items _ F' H' => ∀ J, ItOk C.K F' (Bs C H0) J items → R J H') (fi s) → wi σ H R) (hg : Sg C tg is p) (his : ∀ i ∈ is, i ∈ vs) (ht : Stt C W0 tt ft) (he : Sv C W0 te fe) (k : Po C W F0 H0 L F σ (fun x s' F' H' => ∀ v, SlotV C H0 s' σ F' H' v x → Q v H') (mLc vs fi p ft fe s)) : tLc wi tg tt te vs σ H Q := by
  refine hi _ (po_imp (po_bind k) fun items s1 F1 H1 g1 e1 k1 J it => ?_)
  by_cases hc : (okW s1.env vs && decide (items.length ≤ lim)) = true
  · rw [if_pos hc] at k1
    rw [Bool.and_eq_true] at hc
    have hlim : items.length ≤ lim := of_decide_eq_true hc.2
    cases q : mLcL vs (mTurn p ft fe) items [] ⟨wipeE s1.env vs, s1.t⟩ with
    | exc c s' => rw [q] at k1; exact k1.elim
    | stuck => rw [q] at k1; exact k1.elim
    | ok fin sf =>
      rw [q] at k1
      intro Dl hD
      obtain ⟨G, Y, w, hG, hY⟩ := it.ok
      refine lc_it w (fun i H' => ∃ s' F' acc avs, Good C F0 H0 L s' (wipe σ vs) F' H' ∧ Same F1 F' ∧ Tmp C H0 s' (wipe σ vs) F' H' Dl ∧ H' Dl = some (.lst avs) ∧ RepL C.K F' avs acc ∧ acc.length ≤ i ∧ mLcL vs (mTurn p ft fe) (items.drop i) acc s' = .ok fin sf) ?_ ?_ ?_ ?_
      · exact ⟨_, F1, [], [], (g1.alloc hD).wiped vs, Same.refl _, (Tmp.fresh g1 hD).remix (wipe_mix s1.env σ vs), upd_same, .nil, Nat.zero_le _, q⟩
      · rintro i H' hi' ⟨s', F', acc, avs, g', e', _⟩
        exact hG F' H' e' g'.sub g'.base
      · rintro i x H2 H3 hi' ⟨s2, F2, acc, avs, g2, e2, t2, h2, r2, l2, k2⟩ y
        have hd : items[i]? = some items[i] := by simp [hi']
        have hdrop : items.drop i = items[i] :: items.drop (i + 1) := List.drop_eq_getElem_cons hi'
        rw [hdrop] at k2
        have f0 : F0 Dl = none := Same.free g2.ext0 t2.f
        have pf : Dl ∉ C.fp := fun z => g2.fp0 Dl z t2.h0
        have lH := g2.lH
        have g3 := g2.protect t2 h2
        obtain ⟨F3, g4, e3, r3⟩ : ∃ F3, Good C F0 (upd H0 Dl (.lst avs)) L s2 (wipe σ vs) F3 H3 ∧ Same F2 F3 ∧ Rep C.K F3 x items[i] := by
          rcases hY i x F2 H2 H3 _ e2 g3.sub hd y with ⟨rfl, r⟩ | ⟨tp, a, b, da, db, rfl, hn, rfl, ra, rb, ed⟩
          · exact ⟨F2, g3, Same.refl _, r⟩
          · have e := Same.updN (o := HO.tup [a, b]) (g3.sub.nn hn)
            rw [ed]
            exact ⟨_, g3.allocF hn, e, .tup (.inl (.inl upd_same)) (.cons (ra.mono e) (.cons (rb.mono e) .nil))⟩
        -- the turn's steps
        have k3 : ∃ s3 b s4, p items[i] s2 = .ok () s3 ∧ ft s3 = .ok b s4 ∧
            ((b = true ∧ ∃ z s5, fe s4 = .ok z s5 ∧ mLcL vs (mTurn p ft fe) (items.drop (i + 1)) (acc ++ [z]) ⟨wipeE s5.env vs, s5.t⟩ = .ok fin sf) ∨ (b = false ∧ mLcL vs (mTurn p ft fe) (items.drop (i + 1)) acc ⟨wipeE s4.env vs, s4.t⟩ = .ok fin sf)) := by
          simp only [mLcL, mBind, mTurn, mBlk] at k2
          cases q1 : p items[i] s2 with
          | exc c s' => (try simp only [q1] at k2); cases k2
          | stuck => (try simp only [q1] at k2); cases k2
          | ok u s3 =>
            (try simp only [q1] at k2)
            (try dsimp only at k2)
            cases q2 : ft s3 with
            | exc c s' => (try simp only [q2] at k2); cases k2
            | stuck => (try simp only [q2] at k2); cases k2
            | ok b s4 =>
              (try simp only [q2] at k2)
              (try dsimp only at k2)
              refine ⟨s3, b, s4, rfl, q2, ?_⟩
              cases b with
              | false => exact .inr ⟨rfl, k2⟩
              | true =>
                simp only [mBind] at k2
                cases q3 : fe s4 with
                | exc c s' => (try simp only [q3] at k2); cases k2
                | stuck => (try simp only [q3] at k2); cases k2
                | ok z s5 =>
                  (try simp only [q3] at k2)
                  (try dsimp only at k2)
                  exact .inl ⟨rfl, z, s5, rfl, k2⟩
        obtain ⟨s3, b, s4, q1, q2, q3⟩ := k3
        refine hg _ _ _ _ _ _ _ _ _ _ g4 r3 ?_
        rw [q1]
        intro σ3 g5 w5
        have w6 : wipe σ3 vs = wipe σ vs := (w5 vs his).trans wipe_wipe
        refine ⟨w6, ht _ _ _ _ _ _ _ _ g5 ?_⟩
        rw [q2]
        intro F4 H4 g6 e6
        rcases q3 with ⟨rfl, z, s5, q3, k4⟩ | ⟨rfl, k4⟩
        · refine iteT (he _ _ _ _ _ _ _ _ g6 ?_)
          rw [q3]
          intro F5 H5 g7 e7 yv ry
          obtain ⟨g8, t8, h8⟩ := g7.unprotect t2.h0 f0 pf lH
          refine ⟨avs, h8, ?_, ?_⟩
          · rw [r2.length]
            exact Nat.lt_of_le_of_lt l2 (Nat.lt_of_lt_of_le hi' (lim_ok hlim))
          · have g9 := g8.updTmp (o := HO.lst (avs ++ [yv])) t8
            have g10 := g9.wiped vs
            rw [w6] at g10
            have t10 : Tmp C H0 ⟨wipeE s5.env vs, s5.t⟩ (wipe σ vs) F5 (upd H5 Dl (.lst (avs ++ [yv]))) Dl := by
              have := Tmp.remix (env' := wipeE s5.env vs) (σ' := wipe σ3 vs) ⟨t8.f, t8.h0, t8.no⟩ (wipe_mix s5.env σ3 vs) (C := C) (F := F5) (H := upd H5 Dl (.lst (avs ++ [yv]))) (s := s5)
              rw [w6] at this
              exact this
            exact ⟨_, F5, acc ++ [z], avs ++ [yv], g10, ((e2.trans e3).trans e6).trans e7, t10, upd_same, (((r2.mono e3).mono e6).mono e7).snoc ry, by simp; omega, k4⟩
        · refine iteF ?_
          obtain ⟨g8, t8, h8⟩ := g6.unprotect t2.h0 f0 pf lH
          have g10 := g8.wiped vs
          rw [w6] at g10
          have t10 : Tmp C H0 ⟨wipeE s4.env vs, s4.t⟩ (wipe σ vs) F4 H4 Dl := by
            have := Tmp.remix (env' := wipeE s4.env vs) (σ' := wipe σ3 vs) t8 (wipe_mix s4.env σ3 vs)
            rw [w6] at this
            exact this
          exact ⟨_, F4, acc, avs, g10, (e2.trans e3).trans e6, t10, h8, (r2.mono e3).mono e6, by omega, k4⟩
      · rintro H2 ⟨s2, F2, acc, avs, g2, e2, t2, h2, r2, l2, k2⟩
        rw [List.drop_eq_nil_of_le (Nat.le_refl _)] at k2
        have k3 : Res.ok acc s2 = Res.ok fin sf := k2
        cases k3
        have mix : ∀ (i : Nat) (x : Slot), (restE s1.env sf.env vs)[i]? = some x → x = .un ∨ (sf.env[i]? = some x ∧ σ[i]? = (wipe σ vs)[i]?) ∨ ∃ d v, x = .fz d ∧ σ[i]? = some (some v) ∧ Rep C.K F2 v d := fun i x h => by
          rcases restE_at h with ⟨hm, ex⟩ | ⟨h1, h2⟩
          · have ok := List.all_eq_true.mp hc.1 i hm
            cases q5 : s1.env[i]? with
            | none => rw [List.getD_eq_getElem?_getD, q5] at ex; exact .inl ex
            | some z =>
              rw [List.getD_eq_getElem?_getD, q5] at ex
              have ex : x = z := ex
              subst ex
              rw [q5] at ok
              cases x with
              | un => exact .inl rfl
              | fz d =>
                obtain ⟨v, h3, h4⟩ := g1.slots i _ q5
                exact .inr (.inr ⟨d, v, rfl, h3, h4.mono e2⟩)
              | _ => cases ok
          · exact .inr (.inl ⟨h1, (wipe_other h2).symm⟩)
        have hlen : (restE s1.env sf.env vs).length = σ.length := by rw [restE_length, g2.len, wipe_length]
        exact k1 F2 H2 (g2.remix hlen mix) e2 _ ⟨Dl, avs, rfl, t2.remix mix, h2, r2⟩
  · rw [if_neg hc] at k1
    exact k1.elim
theorem se_lc {wi : TI} {fi : M T (List D)} {tg : TG} {is : List Nat} {p : D → M T Unit} {tt : TT} {ft : M T Bool} {te : TE} {fe : M T D} {vs : List Nat} (hi : Si C W wi fi) (hg : Sg C tg is p) (his : ∀ i ∈ is, i ∈ vs) (ht : Stt C W0 tt ft) (he : Sv C W0 te fe) :
    Se C W (tLc wi tg tt te vs) (mLc vs fi p ft fe) := fun F0 H0 L s σ F H Q g k => se_lc_at (fun R h => hi _ _ _ _ _ _ _ R g h) hg his ht he k
end

/-! ### defs -/
def CU (K : PySem.W.Frag) (cls : Nat → Addr) : Ct Unit where
  ptr := fun _ => 0
  fp := []
  J := fun _ _ _ => True
  stab := fun _ _ _ _ _ _ _ _ => trivial
  K := K
  cls := cls
abbrev WofE (E : XK) : WX := fun c d _ H => E c d H
def outOf {T : Type} : Res T Out → Rp
  | .ok (.ret d) _ => .ok d
  | .ok .nx _ => .ok .none
  | .exc c _ => .exc c
  | _ => .stuck
def env0 (k n : Nat) (ds : List D) : List Slot := ds.map .fz ++ List.replicate (n - k) .un
def fnP (k n : Nat) (body : M Unit Out) (ds : List D) : Rp := if ds.length = k then outOf (body ⟨env0 k n ds, ()⟩) else .stuck
theorem RepL.begin0 {K : PySem.W.Frag} {F : Hp} {N : List Str} {vs : List V} {ds : List D} (r : RepL K F vs ds) (h : ds.length ≤ N.length) : (env0 ds.length N.length ds).length = (L2.start N vs).length ∧
    ∀ (i : Nat) (x : Slot), (env0 ds.length N.length ds)[i]? = some x → x = .un ∨ ∃ d v, x = .fz d ∧ (L2.start N vs)[i]? = some (some v) ∧ Rep K F v d := by
  have e := r.length
  refine ⟨?_, fun i x hx => ?_⟩
  · unfold env0 L2.start
    simp [e]
  · unfold env0 at hx
    by_cases hi : i < ds.length
    · rw [List.getElem?_append_left (by simpa using hi), List.getElem?_map] at hx
      cases q : ds[i]? with
      | none => rw [q] at hx; cases hx
      | some d =>
        rw [q] at hx; cases hx
        obtain ⟨v, h1, h2⟩ := r.get q
        refine .inr ⟨d, v, rfl, ?_, h2⟩
        unfold L2.start
        rw [List.getElem?_append_left (by rw [List.length_map, e]; exact hi), List.getElem?_map, h1]
        rfl
    · rw [List.getElem?_append_right (by simpa using hi), List.getElem?_replicate] at hx
      split at hx
      · cases hx; exact .inl rfl
      · cases hx
section
variable {P : Program} {w : World} {K : PySem.W.Frag} {mg : Str → Option Value} {base : Heap} {cls : Nat → Addr}
/-- a def of the text that keeps all that was tracked -/
theorem okP {x qual : Str} {st : Stmt} {f : Addr} {fd : FuncData} {N ps : List Str} {k : Nat} {m : M Unit Out} (F : Fun K x qual st f fd) (S : FnScope N ps (defScope st))
    (hbody : ∀ (cdv : Value) (A : Around) (outer : List Env) (s : Shared) (H : Hp) (E : XK), Room k (A.deeper (PyProof.Rows.envOfC qual (defScope st) s.heap.objs.size f cdv)) →
      ∃ t, PSs (cxOf (L2.CX P w) P w K mg base N qual (defScope st) f cdv A outer s H E) (defBody st) t ∧ Sb (CU K cls) (WofE E) t m) :
    FnOk P w K mg base (L2.CX P w) (k + 1) f fd ps (spP K cls (fnP ps.length N.length m)) := by
  have hpl : ps.length ≤ N.length := by
    have e := congrArg List.length S.pre
    rw [List.length_take] at e
    omega
  refine F.okX S (fun vs H Q E h => ?_) (fun cdv A outer s H vs Q E hr h => ?_)
  · obtain ⟨F1, ds, u, r, q⟩ := h
    unfold fnP at q
    by_cases hl : ds.length = ps.length
    · rw [r.length, hl]
    · rw [if_neg hl] at q; exact q.elim
  · obtain ⟨F1, ds, u, r, q⟩ := h
    obtain ⟨t, ht, sb⟩ := hbody cdv A outer s H E hr
    refine ⟨t, ht, ?_⟩
    unfold fnP at q
    by_cases hl : ds.length = ps.length
    · rw [if_pos hl] at q
      rw [← hl] at q
      obtain ⟨hlen, hs⟩ := r.begin0 (N := N) (by omega)
      have g : Good (CU K cls) F1 H (fun _ => none) ⟨env0 ds.length N.length ds, ()⟩ (L2.start N vs) F1 H :=
        { len := hlen
          sub := u
          ext0 := Same.refl _
          base := fun a o e _ => e
          newF := fun a o e => .inl e
          fp0 := fun a z => nomatch (show a ∈ ([] : List Addr) from z)
          fpF := fun a z => nomatch (show a ∈ ([] : List Addr) from z)
          fpH := fun a z => nomatch (show a ∈ ([] : List Addr) from z)
          lH := fun _ _ z => nomatch z
          slots := fun i x hx => by
            rcases hs i x hx with rfl | ⟨d, v, rfl, h1, h2⟩
            · trivial
            · exact ⟨v, h1, h2⟩
          sep := fun i j x y p _ hx _ ox => by
            rcases hs i x hx with rfl | ⟨d, v, rfl, h1, h2⟩ <;> cases ox
          j := trivial }
      have aft : ∀ s' σ' F' H', Good (CU K cls) F1 H (fun _ => none) s' σ' F' H' → Same F1 F' → Aft F1 H F' H' := fun s' σ' F' H' g' e => ⟨e, g'.sub, fun a o h => (g'.newF a o h).imp id (fun z => z.elim id (fun z => nomatch z.1)), fun a o h => g'.base a o h (by intro z; cases z)⟩
      refine sb _ _ _ _ _ _ _ _ g ?_
      cases e : m ⟨env0 ds.length N.length ds, ()⟩ with
      | stuck => rw [e] at q; exact q.elim
      | exc c s' =>
        rw [e] at q
        exact fun σ' F' H' g' e' => q F' H' (aft s' σ' F' H' g' e')
      | ok o s' =>
        rw [e] at q
        cases o with
        | bk => exact q.elim
        | ct => exact q.elim
        | nx => exact fun σ' F' H' g' e' => q .non F' H' (aft s' σ' F' H' g' e') .non
        | ret d => exact fun v σ' F' H' g' e' r' => q v F' H' (aft s' σ' F' H' g' e') r'
    · rw [if_neg hl] at q; exact q.elim
end
end Pm

set_option Elab.async false
set_option linter.all false
set_option maxRecDepth 100000
/-! Both sides in one: the hand layer's term and what it keeps to. -/
namespace Pm
open PySem L2 RZ

/-- b: no exception is being handled -/
structure CurB (b : Bool) {T : Type} (X : Cx) (C : Ct T) (W : WX) (k : Nat) (cls : Nat → Addr) (K : PySem.W.Frag) : Prop where
  un : X.A.units + 64 < cLine
  hX : X.K = K
  hK : C.K = K
  nd : X.N.Nodup
  hc : C.cls = cls
  co : b = true → Takes X W ∧ Room k X.A ∧ X.calm = true
abbrev Cur {T : Type} (X : Cx) (C : Ct T) (W : WX) (k : Nat) (cls : Nat → Addr) (K : PySem.W.Frag) : Prop := CurB true X C W k cls K
section
variable {T : Type} {X : Cx} {C : Ct T} {W : WX} {k : Nat} {cls : Nat → Addr} {K : PySem.W.Frag}
theorem CurB.tk (q : Cur X C W k cls K) : Takes X W := (q.co rfl).1
theorem CurB.hr (q : Cur X C W k cls K) : Room k X.A := (q.co rfl).2.1
theorem CurB.calm (q : Cur X C W k cls K) : X.calm = true := (q.co rfl).2.2
theorem Cur.mk' (tk : Takes X W) (hr : Room k X.A) (hX : X.K = K) (hK : C.K = K) (calm : X.calm = true) (nd : X.N.Nodup) (hc : C.cls = cls) : Cur X C W k cls K := ⟨by have := hr.units; omega, hX, hK, nd, hc, fun _ => ⟨tk, hr, calm⟩⟩
end
structure DV {T : Type} (X : Cx) (C : Ct T) (W : WX) (e : Expr) (t : TE) (f : M T D) : Prop where
  pe : PE X e t
  sv : Sv C W t f
structure DE {T : Type} (X : Cx) (C : Ct T) (W : WX) (e : Expr) (t : TE) (f : M T Slot) : Prop where
  pe : PE X e t
  sv : Se C W t f
structure DT {T : Type} (X : Cx) (C : Ct T) (W : WX) (e : Expr) (t : TT) (f : M T Bool) : Prop where
  pe : PT X e t
  sv : Stt C W t f
structure DW {T : Type} (X : Cx) (C : Ct T) (W : WX) (e : Expr) (t : TT) (f : M T Bool) : Prop where
  pe : PW X e t
  sv : Stt C W t f
structure DTs {T : Type} (X : Cx) (C : Ct T) (W : WX) (e : List Expr) (t : TT) (f : M T Bool) : Prop where
  pe : PTs X e t
  sv : Stt C W t f
structure DA {T : Type} (X : Cx) (C : Ct T) (W : WX) (es : List Expr) (t : TA) (f : M T (List D)) : Prop where
  pe : PA X es t
  sv : Sa C W t f
structure DAs {T : Type} (X : Cx) (C : Ct T) (W : WX) (es : List Expr) (t : TA) (f : M T (List Slot)) : Prop where
  pe : PA X es t
  sv : Sas C W t f
structure DO {T : Type} (X : Cx) (C : Ct T) (W : WX) (e : Option Expr) (t : TO) (f : M T (Option Int)) : Prop where
  pe : PO X e t
  sv : So C W t f
structure DI {T : Type} (X : Cx) (C : Ct T) (W : WX) (tg e : Expr) (t : TI) (f : M T (List D)) : Prop where
  pe : PI X tg e t
  sv : Si C W t f
structure DG {T : Type} (X : Cx) (C : Ct T) (tg : Expr) (g : TG) (is : List Nat) (p : D → M T Unit) : Prop where
  pe : PG X tg g
  sv : Sg C g is p
structure DGs {T : Type} (X : Cx) (C : Ct T) (tg : List Expr) (g : TGs) (is : List Nat) (p : List D → M T Unit) : Prop where
  pe : PGs X tg g
  sv : Sgs C g is p
structure DS {T : Type} (X : Cx) (C : Ct T) (W : WX) (st : Stmt) (t : TS) (f : M T Out) : Prop where
  pe : PS X st t
  sv : Sb C W t f
structure DSs {T : Type} (X : Cx) (C : Ct T) (W : WX) (st : List Stmt) (t : TS) (f : M T Out) : Prop where
  pe : PSs X st t
  sv : Sb C W t f

def truthD : D → Option Bool
  | .none => some false
  | .bool b => some b
  | .int i => some (i != 0)
  | .str z => if z.length ≤ lim then some ((z.length : Int) != 0) else none
  | .list xs => some (!xs.isEmpty)
  | .tuple xs => some (!xs.isEmpty)
  | .dict kvs => none
def mTruth {T : Type} (f : M T D) : M T Bool := mBind f fun d => mLift (truthD d)
abbrev tTru (K : PySem.W.Frag) (ta : TE) : TT := fun σ H Q => ta σ H fun x H' => ∃ k, TruV K x H' k ∧ Q k H'

section
variable {T : Type} {X : Cx} {C : Ct T} {W : WX} {k : Nat} {cls : Nat → Addr} {K : PySem.W.Frag} {a b c e : Expr} {es : List Expr} {pos : Pos} {ta tb tc : TE} {fa fb fc : M T D} {t u : TT} {ft fu : M T Bool}
theorem stt_truth (h : Sv C W ta fa) : Stt C W (tTru C.K ta) (mTruth fa) := by
  intro F0 H0 L s σ F H Q g q
  refine h _ _ _ _ _ _ _ _ g (po_imp (po_bind q) fun d s1 F1 H1 g1 e1 h1 v rv => ?_)
  obtain ⟨b, q2, h2⟩ := po_lift h1
  have h3 := po_ret h2 g1
  refine ⟨b, ?_, h3⟩
  cases rv with
  | non => cases q2; rfl
  | bl b => cases q2; rfl
  | int i => cases q2; rfl
  | str z =>
    dsimp only [truthD] at q2
    by_cases hl : z.length ≤ lim
    · rw [if_pos hl] at q2; cases q2; exact ⟨lim_ok hl, rfl⟩
    · rw [if_neg hl] at q2; cases q2
  | lst hx r =>
    cases q2
    refine .inl ⟨_, SqL.of (g1.sub.lst hx), ?_⟩
    cases r <;> rfl
  | tup hx r =>
    cases q2
    refine .inr (.inl ⟨_, g1.sub.tup hx, ?_⟩)
    cases r <;> rfl
  | dic hx r => cases q2
theorem CurB.blk (q : Cur X C W k cls K) (s : Shared) (H : Hp) (scope : Scope) (cenv : Env) (fp : List Addr) : Cur (X.blk s H scope cenv fp) C W0 k cls K := Cur.mk' takes0 q.hr q.hX q.hK q.calm q.nd q.hc
theorem CurB.units {bb : Bool} (q : CurB bb X C W k cls K) : X.A.units + 64 < cLine := q.un
-- leaves
theorem dv_var (i : Nat) {x : Str} (hN : X.N[i]? = some x := by rfl) (hv : Vis X.env.scope x := by first | exact Or.inl rfl | exact Or.inr (Or.inl rfl) | exact Or.inr (Or.inr rfl)) (hd : (x == ("__debug__" : Str)) = false := by decide)
    (hcd : (x == ("__classdict__" : Str)) = false := by decide) : DV X C W (.Name x pos) (tVar i) (mVar i) := ⟨pe_var hN hv hd hcd, sv_var i⟩
theorem dv_int {i : Int} {j : Nat} : DV X C W (.Constant (.int i) j pos) (tC (.int i)) (mRet (.int i)) := ⟨pe_int, sv_int⟩
theorem dv_bl {b : Bool} {j : Nat} : DV X C W (.Constant (.bool b) j pos) (tC (.bl b)) (mRet (.bool b)) := ⟨pe_bl, sv_bl⟩
theorem dv_non {j : Nat} : DV X C W (.Constant .none j pos) (tC .non) (mRet .none) := ⟨pe_non, sv_non⟩
theorem dv_str {x : Str} {j : Nat} : DV X C W (.Constant (.str x) j pos) (tC (.str x)) (mRet (.str x)) := ⟨pe_str, sv_str⟩
theorem dv_glob {x : Str} {v : V} {u : Value} {d : D} (hm : X.mg x = some u) (r : RelV v u) (hr : ∀ F, Rep C.K F v d) (hg : Gl X x := by rfl) (hd : (x == ("__debug__" : Str)) = false := by decide) : DV X C W (.Name x pos) (tC v) (mRet d) := ⟨pe_glob hg hm r hd, sv_c hr⟩
-- operators
theorem dv_add {bb : Bool} (q : CurB bb X C W k cls K) (ha : DV X C W a ta fa) (hb : DV X C W b tb fb) : DV X C W (.BinOp a .Add b pos) (tOp (rAddA K) ta tb) (mOp opAdd fa fb) := ⟨by rw [← q.hX]; exact pe_op or_add ha.pe hb.pe, by rw [← q.hK]; exact sv_op ha.sv hb.sv rv_add⟩
theorem dv_sub (ha : DV X C W a ta fa) (hb : DV X C W b tb fb) : DV X C W (.BinOp a .Sub b pos) (tOp (rI0 fun i j => .int (i - j)) ta tb) (mOp opSub fa fb) := ⟨pe_op op_sub ha.pe hb.pe, sv_op ha.sv hb.sv rv_sub⟩
theorem dv_mul (ha : DV X C W a ta fa) (hb : DV X C W b tb fb) : DV X C W (.BinOp a .Mult b pos) (tOp (rOr (rI CMulW fun i j => .int (i * j)) rRep) ta tb) (mOp opMul fa fb) := ⟨pe_op (op_mulW.or op_rep) ha.pe hb.pe, sv_op ha.sv hb.sv rv_mul⟩
theorem dv_div (ha : DV X C W a ta fa) (hb : DV X C W b tb fb) : DV X C W (.BinOp a .FloorDiv b pos) (tOp (rI CDivW fun i j => .int (i / j)) ta tb) (mOp opDiv fa fb) := ⟨pe_op op_fdivW ha.pe hb.pe, sv_op ha.sv hb.sv rv_div⟩
theorem dv_mod (ha : DV X C W a ta fa) (hb : DV X C W b tb fb) : DV X C W (.BinOp a .Mod b pos) (tOp (rI (fun _ j => 0 < j) fun i j => .int (i % j)) ta tb) (mOp opMod fa fb) := ⟨pe_op op_mod ha.pe hb.pe, sv_op ha.sv hb.sv rv_mod⟩
theorem dv_pow (ha : DV X C W a ta fa) (hb : DV X C W b tb fb) : DV X C W (.BinOp a .Pow b pos) (tOp (rI CPow fun i j => .int (i ^ j.toNat)) ta tb) (mOp opPow fa fb) := ⟨pe_op op_pow ha.pe hb.pe, sv_op ha.sv hb.sv rv_pow⟩
theorem dv_neg (ha : DV X C W a ta fa) : DV X C W (.UnaryOp .USub a pos) (tUn (rU fun i => .int (-i)) ta) (mUn opNeg fa) := ⟨pe_un un_neg ha.pe, sv_un ha.sv ru_neg'⟩
/-- a comparison by its rule: the operator's, the value's -/
structure CmpD {T : Type} (X : Cx) (C : Ct T) (op : CmpOp) (r : R2) (f : D → D → Option D) : Prop where
  op : OpR X (compareOp op) r
  rv : Rv C r f
  rw : Rw C r f
structure CmpI {T : Type} (X : Cx) (C : Ct T) (op : CmpOp) (r : R2) (f : D → D → Option D) : Prop where
  op : OpR X (compareOp op) r
  rv : Rv C r f
theorem Rv.scal {r : R2} {f : D → D → Option D} (h : Rv C r f) (hn : ∀ a b ds, (a = PyData.list ds ∨ ∃ ks, a = PyData.dict ks) → f a b = none) : Rw C r f := by
  intro F0 H0 L s σ F H x y a b Q g rx ry k
  rcases rx with rx | ⟨p, xs, ds, rfl, rfl, hp, r⟩ | ⟨p, xs, ds, rfl, rfl, hp, r⟩
  · exact h F0 H0 L s σ F H x y a b Q g rx ry k
  · rw [hn _ b ds (.inl rfl)] at k; exact k.elim
  · rw [hn _ b [] (.inr ⟨ds, rfl⟩)] at k; exact k.elim
theorem c_eq {bb : Bool} (q : CurB bb X C W k cls K) : CmpD X C .Eq (rEqD K) opEq := ⟨by rw [← q.hX]; exact op_eqD q.units, by rw [← q.hK]; exact rv_eq, by rw [← q.hK]; exact rw_eq⟩
theorem c_ne {bb : Bool} (q : CurB bb X C W k cls K) : CmpD X C .NotEq (rNeD K) opNe := ⟨by rw [← q.hX]; exact op_neD q.units, by rw [← q.hK]; exact rv_ne, by rw [← q.hK]; exact rw_ne⟩
theorem c_lt : CmpD X C .Lt rLtA opLt := ⟨or_lt, rv_lt, rv_lt.scal fun a b ds h => by rcases h with rfl | ⟨ks, rfl⟩ <;> rfl⟩
theorem c_le : CmpD X C .LtE (rI0 fun i j => .bl (decide (i ≤ j))) opLe := ⟨op_le, rv_le, rv_le.scal fun a b ds h => by rcases h with rfl | ⟨ks, rfl⟩ <;> rfl⟩
theorem c_gt : CmpD X C .Gt (rI0 fun i j => .bl (decide (j < i))) opGt := ⟨op_gt, rv_gt, rv_gt.scal fun a b ds h => by rcases h with rfl | ⟨ks, rfl⟩ <;> rfl⟩
theorem c_ge : CmpD X C .GtE (rI0 fun i j => .bl (decide (j ≤ i))) opGe := ⟨op_ge, rv_ge, rv_ge.scal fun a b ds h => by rcases h with rfl | ⟨ks, rfl⟩ <;> rfl⟩
theorem c_is : CmpI X C .Is rIsA opIs := ⟨or_is, rv_is⟩
theorem c_isnot : CmpI X C .IsNot rIsNotA opIsNot := ⟨or_isnot, rv_isnot⟩
theorem c_in {bb : Bool} (q : CurB bb X C W k cls K) : CmpI X C .In (rInD K) opIn := ⟨by rw [← q.hX]; exact or_in.or (op_din (by have := q.un; omega)), by rw [← q.hK]; exact rv_in⟩
theorem c_notin {bb : Bool} (q : CurB bb X C W k cls K) : CmpI X C .NotIn (rNotInD K) opNotIn := ⟨by rw [← q.hX]; exact or_notin.or (op_dnotin (by have := q.un; omega)), by rw [← q.hK]; exact rv_notin⟩
theorem CmpD.i {op : CmpOp} {r : R2} {f : D → D → Option D} (h : CmpD X C op r f) : CmpI X C op r f := ⟨h.op, h.rv⟩
variable {op op' : CmpOp} {r r' : R2} {f f' : D → D → Option D}
theorem dv_cmp (h : CmpI X C op r f) (ha : DV X C W a ta fa) (hb : DV X C W b tb fb) (hm : behindInMarks op b = false := by rfl) : DV X C W (.Compare a [op] [b] pos) (tOp r ta tb) (mOp f fa fb) := ⟨pe_cmpR h.op ha.pe hb.pe hm, sv_op ha.sv hb.sv h.rv⟩
theorem dt_cmp (h : CmpI X C op r f) (ha : DV X C W a ta fa) (hb : DV X C W b tb fb) (hm : behindInMarks op b = false := by rfl) : DT X C W (.Compare a [op] [b] pos) (tTest (tOp r ta tb)) (mB (mOp f fa fb)) := ⟨pt_cmpR h.op ha.pe hb.pe hm, stt_test (sv_op ha.sv hb.sv h.rv)⟩
theorem dv_cmpP (h : CmpD X C op r f) (i : Nat) (ha : PE X a (tVar i)) (hb : DV X C W b tb fb) (hm : behindInMarks op b = false := by rfl) : DV X C W (.Compare a [op] [b] pos) (tOp r (tVar i) tb) (mOpP f i fb) := ⟨pe_cmpR h.op ha hb.pe hm, sv_opP hb.sv h.rw⟩
theorem dt_cmpP (h : CmpD X C op r f) (i : Nat) (ha : PE X a (tVar i)) (hb : DV X C W b tb fb) (hm : behindInMarks op b = false := by rfl) : DT X C W (.Compare a [op] [b] pos) (tTest (tOp r (tVar i) tb)) (mB (mOpP f i fb)) := ⟨pt_cmpR h.op ha hb.pe hm, stt_test (sv_opP hb.sv h.rw)⟩
theorem dv_chain (h : CmpI X C op r f) (h' : CmpI X C op' r' f') (ha : DV X C W a ta fa) (hb : DV X C W b tb fb) (hc : DV X C W c tc fc) (hm : lastMarks [op, op'] [b, c] = false := by with_unfolding_all rfl) : DV X C W (.Compare a [op, op'] [b, c] pos) (tChain r r' ta tb tc) (mChain f f' fa fb fc) :=
  ⟨pe_chain h.op h'.op ha.pe hb.pe hc.pe hm, sv_chain ha.sv hb.sv hc.sv h.rv h'.rv⟩
theorem dt_chain (h : CmpI X C op r f) (h' : CmpI X C op' r' f') (ha : DV X C W a ta fa) (hb : DV X C W b tb fb) (hc : DV X C W c tc fc) (hm : lastMarks [op, op'] [b, c] = false := by with_unfolding_all rfl) : DT X C W (.Compare a [op, op'] [b, c] pos) (tTest (tChain r r' ta tb tc)) (mB (mChain f f' fa fb fc)) :=
  ⟨pt_chain h.op h'.op ha.pe hb.pe hc.pe hm, stt_test (sv_chain ha.sv hb.sv hc.sv h.rv h'.rv)⟩
-- and, or, not
theorem dt_tru {bb : Bool} (q : CurB bb X C W k cls K) (ha : DV X C W a ta fa) (he : ∀ whole, isTrue a X.env whole = (do let v ← whole; standAt a.pos; holding [v] (truthy v)) := by intro _; rfl) : DT X C W a (tTru K ta) (mTruth fa) := ⟨by rw [← q.hX]; exact pt_truth ha.pe he, by rw [← q.hK]; exact stt_truth ha.sv⟩
theorem dw_and1 (h : DT X C W a t ft) : DW X C W (.BoolOp .And [a] pos) t ft := ⟨pw_and1 h.pe, h.sv⟩
theorem dw_or1 (h : DT X C W a t ft) : DW X C W (.BoolOp .Or [a] pos) t ft := ⟨pw_or1 h.pe, h.sv⟩
theorem dw_and {rest : List Expr} (h : DT X C W a t ft) (hr : DW X C W (.BoolOp .And (b :: rest) pos) u fu) : DW X C W (.BoolOp .And (a :: b :: rest) pos) (tAnd t u) (mAnd ft fu) := ⟨pw_and h.pe hr.pe, stt_and h.sv hr.sv⟩
theorem dw_or {rest : List Expr} (h : DT X C W a t ft) (hr : DW X C W (.BoolOp .Or (b :: rest) pos) u fu) : DW X C W (.BoolOp .Or (a :: b :: rest) pos) (tOr t u) (mOr ft fu) := ⟨pw_or h.pe hr.pe, stt_or h.sv hr.sv⟩
theorem dt_w (h : DW X C W a t ft) : DT X C W a t ft := ⟨h.pe.pt, h.sv⟩
theorem dt_not (h : DT X C W a t ft) : DT X C W (.UnaryOp .Not a pos) (tNot t) (mNot ft) := ⟨pt_not h.pe, stt_not h.sv⟩
theorem dv_one {o : BoolOp} (h : DV X C W a ta fa) : DV X C W (.BoolOp o [a] pos) ta fa := ⟨pe_one h.pe, h.sv⟩
theorem dv_and {rest : List Expr} (h : DV X C W a ta fa) (hr : DV X C W (.BoolOp .And (b :: rest) pos) tb fb) : DV X C W (.BoolOp .And (a :: b :: rest) pos) (tAndV ta tb) (mAndV fa fb) := ⟨pe_and h.pe hr.pe, sv_andV h.sv hr.sv⟩
theorem dv_or {rest : List Expr} (h : DV X C W a ta fa) (hr : DV X C W (.BoolOp .Or (b :: rest) pos) tb fb) : DV X C W (.BoolOp .Or (a :: b :: rest) pos) (tOrV ta tb) (mOrV fa fb) := ⟨pe_or h.pe hr.pe, sv_orV h.sv hr.sv⟩
theorem dv_not (h : DV X C W a ta fa) : DV X C W (.UnaryOp .Not a pos) (tNotV ta) (mOfB (mNot (mB fa))) := ⟨pe_not h.pe, sv_notV h.sv⟩
theorem dv_if (hc : DT X C W c t ft) (ha : DV X C W a ta fa) (hb : DV X C W b tb fb) : DV X C W (.IfExp c a b pos) (tIf t ta tb) (mIf ft fa fb) := ⟨pe_ifExp hc.pe ha.pe hb.pe, sv_ifE hc.sv ha.sv hb.sv⟩
-- displays, arguments
variable {tr : TA} {fr : M T (List D)}
theorem da_nil : DA X C W [] tNil (mRet []) := ⟨pa_nil, sa_nil⟩
theorem da_cons (ha : DV X C W e ta fa) (hr : DA X C W es tr fr) (hs : starEach (e :: es) X.env = (false, eval e X.env) :: starEach es X.env := by rfl) : DA X C W (e :: es) (tCons ta tr) (mCons fa fr) := ⟨pa_cons ha.pe hr.pe hs, sa_cons ha.sv hr.sv⟩
theorem dv_tup {x1 : Nat} (h : DA X C W es tr fr) : DV X C W (.Tuple es x1 pos) (tTup tr) (mTup fr) := ⟨pe_tup h.pe, sv_tup h.sv⟩
theorem de_lst (h : DA X C W es tr fr) : DE X C W (.List es pos) (tLst tr) (mLst fr) := ⟨pe_lst h.pe, se_lst h.sv⟩
theorem dv_frz {f : M T Slot} (h : DE X C W a ta f) : DV X C W a ta (mFrz f) := ⟨h.pe, sv_frz h.sv⟩
theorem de_fz (h : DV X C W a ta fa) : DE X C W a ta (mFz fa) := ⟨h.pe, se_fz h.sv⟩
theorem de_if {f f' : M T Slot} (hc : DT X C W c t ft) (ha : DE X C W a ta f) (hb : DE X C W b tb f') : DE X C W (.IfExp c a b pos) (tIf t ta tb) (mIf ft f f') := ⟨pe_ifExp hc.pe ha.pe hb.pe, se_ifE hc.sv ha.sv hb.sv⟩
theorem das_nil : DAs X C W [] tNil mSNil := ⟨pa_nil, sas_nil⟩
theorem das_cons {f : M T Slot} {fr : M T (List Slot)} (ha : DE X C W e ta f) (hr : DAs X C W es tr fr) (hs : starEach (e :: es) X.env = (false, eval e X.env) :: starEach es X.env := by rfl) : DAs X C W (e :: es) (tCons ta tr) (mSCons f fr) := ⟨pa_cons ha.pe hr.pe hs, sas_cons ha.sv hr.sv⟩
-- built-ins
variable {p : Pos}
theorem dv_len {bb : Bool} (q : CurB bb X C W k cls K) (hm : X.mg "len" = none) (ha : DV X C W a ta fa) (hg : Gl X "len" := by rfl) (he : starEach [a] X.env = (false, eval a X.env) :: starEach [] X.env := by rfl) : DV X C W (.Call (.Name "len" p) [a] [] pos) (tCB (rLenA K) (tCons ta tNil)) (mUn opLen fa) :=
  ⟨by rw [← q.hX]; exact pe_callB cr_len hg hm PySem.boot_len (pa_cons ha.pe pa_nil he) (by decide) (by decide) he (by rfl), by rw [← q.hK]; exact sv_cb1 ha.sv rw_len.ru⟩
theorem dv_lenP {bb : Bool} (q : CurB bb X C W k cls K) (hm : X.mg "len" = none) (i : Nat) (ha : PE X a (tVar i)) (hg : Gl X "len" := by rfl) (he : starEach [a] X.env = (false, eval a X.env) :: starEach [] X.env := by rfl) : DV X C W (.Call (.Name "len" p) [a] [] pos) (tCB (rLenA K) (tCons (tVar i) tNil)) (mUnP opLen i) :=
  ⟨by rw [← q.hX]; exact pe_callB cr_len hg hm PySem.boot_len (pa_cons ha pa_nil he) (by decide) (by decide) he (by rfl), by rw [← q.hK]; exact sv_cb1P rw_len⟩
theorem dv_all (q : Cur X C W k cls K) (hm : X.mg "all" = none) (ha : DV X C W a ta fa) (hg : Gl X "all" := by rfl) (he : starEach [a] X.env = (false, eval a X.env) :: starEach [] X.env := by rfl) : DV X C W (.Call (.Name "all" p) [a] [] pos) (tCB (rAll K) (tCons ta tNil)) (mUn opAll fa) :=
  ⟨by rw [← q.hX]; exact pe_callB (cr_all q.calm) hg hm PyProof.Rows.boot_all (pa_cons ha.pe pa_nil he) (by decide) (by decide) he (by rfl), by rw [← q.hK]; exact sv_cb1 ha.sv ru_all⟩
theorem dv_any (q : Cur X C W k cls K) (hm : X.mg "any" = none) (ha : DV X C W a ta fa) (hg : Gl X "any" := by rfl) (he : starEach [a] X.env = (false, eval a X.env) :: starEach [] X.env := by rfl) : DV X C W (.Call (.Name "any" p) [a] [] pos) (tCB (rAny K) (tCons ta tNil)) (mUn opAny fa) :=
  ⟨by rw [← q.hX]; exact pe_callB (cr_any q.calm) hg hm PyProof.Rows.boot_any (pa_cons ha.pe pa_nil he) (by decide) (by decide) he (by rfl), by rw [← q.hK]; exact sv_cb1 ha.sv ru_any⟩
theorem dv_sum (q : Cur X C W k cls K) (hm : X.mg "sum" = none) (ha : DV X C W a ta fa) (hg : Gl X "sum" := by rfl) (he : starEach [a] X.env = (false, eval a X.env) :: starEach [] X.env := by rfl) : DV X C W (.Call (.Name "sum" p) [a] [] pos) (tCB (rSum K) (tCons ta tNil)) (mUn opSum fa) :=
  ⟨by rw [← q.hX]; exact pe_callB (cr_sum q.calm) hg hm PyProof.Rows.boot_sum (pa_cons ha.pe pa_nil he) (by decide) (by decide) he (by rfl), by rw [← q.hK]; exact sv_cb1 ha.sv ru_sum⟩
theorem dv_abs (hm : X.mg "abs" = none) (ha : DV X C W a ta fa) (hg : Gl X "abs" := by rfl) (he : starEach [a] X.env = (false, eval a X.env) :: starEach [] X.env := by rfl) : DV X C W (.Call (.Name "abs" p) [a] [] pos) (tCB rAbs (tCons ta tNil)) (mUn opAbs fa) :=
  ⟨pe_callB call_abs hg hm PyProof.Rows.boot_abs (pa_cons ha.pe pa_nil he) (by decide) (by decide) he (by rfl), sv_cb1 ha.sv ru_abs⟩
theorem dv_tuple {bb : Bool} (q : CurB bb X C W k cls K) (hm : X.mg "tuple" = none) (ha : DV X C W a ta fa) (hg : Gl X "tuple" := by rfl) (he : starEach [a] X.env = (false, eval a X.env) :: starEach [] X.env := by rfl) : DV X C W (.Call (.Name "tuple" p) [a] [] pos) (tCB (rTupOf K) (tCons ta tNil)) (mUn opTuple fa) :=
  ⟨by rw [← q.hX]; exact pe_callTy call_tuple_of hg hm PyProof.Rows.boot_tuple (pa_cons ha.pe pa_nil he) (by decide) (by decide) he (by rfl), by rw [← q.hK]; exact sv_cb1 ha.sv rw_tuple.ru⟩
theorem dv_min2 (q : Cur X C W k cls K) (hm : X.mg "min" = none) (ha : DV X C W a ta fa) (hb : DV X C W b tb fb) (hg : Gl X "min" := by rfl) (he : starEach [a, b] X.env = (false, eval a X.env) :: starEach [b] X.env := by rfl) (he2 : starEach [b] X.env = (false, eval b X.env) :: starEach [] X.env := by rfl) (hpl : (backTo pos (starEach [b] X.env)).any (·.1) = false := by rfl) :
    DV X C W (.Call (.Name "min" p) [a, b] [] pos) (tCB rMin2 (tCons ta (tCons tb tNil))) (mOp opMin2 fa fb) :=
  ⟨pe_callB (call_min2 q.calm) hg hm PyProof.Rows.boot_min (pa_cons ha.pe (pa_cons hb.pe pa_nil he2) he) (by decide) (by decide) he hpl, sv_cb2 ha.sv hb.sv rv_min2⟩
/-- isinstance(e, T) -/
theorem dv_isi {bb : Bool} (q : CurB bb X C W k cls K) (ty : Ty) {n : Str} {p2 : Pos} (hm : X.mg "isinstance" = none) (hm2 : X.mg n = none) (hb : bootBuiltins n = some (.type ty.nm)) (ha : DV X C W a ta fa) (hg : Gl X "isinstance" := by rfl) (hg2 : Gl X n := by rfl)
    (hn : n ≠ "__name__" := by decide) (hdb : (n == ("__debug__" : Str)) = false := by decide) (he : starEach [a, .Name n p2] X.env = (false, eval a X.env) :: starEach [.Name n p2] X.env := by rfl) (he2 : starEach [.Name n p2] X.env = (false, eval (.Name n p2) X.env) :: starEach [] X.env := by rfl) (hpl : (backTo pos (starEach [.Name n p2] X.env)).any (·.1) = false := by rfl) :
    DV X C W (.Call (.Name "isinstance" p) [a, .Name n p2] [] pos) (tCB (rIsi K) (tCons ta (tCons (tC (.ty ty.nm)) tNil))) (mIsi ty fa) :=
  ⟨by rw [← q.hX]; exact pe_callB call_isi hg hm PyProof.Rows.boot_isinstance (pa_cons ha.pe (pa_cons (pe_bltn hg2 hm2 hb rfl hn hdb) pa_nil he2) he) (by decide) (by decide) he hpl, by rw [← q.hK]; exact sv_isi ty rfl ha.sv⟩
-- subscripts, slices
theorem dv_ix {bb : Bool} (q : CurB bb X C W k cls K) (ha : DV X C W a ta fa) (hb : DV X C W b tb fb) (hs : PlainIx b := by exact fun _ _ => rfl) : DV X C W (.Subscript a b pos) (tOp (rIxA K) ta tb) (mOp opIx fa fb) := ⟨by rw [← q.hX]; exact pe_ix (ix_seq.or (ix_dict (by have := q.un; omega))) ha.pe hb.pe hs, by rw [← q.hK]; exact sv_op ha.sv hb.sv rv_ix⟩
theorem dv_ixP {bb : Bool} (q : CurB bb X C W k cls K) (i : Nat) (ha : PE X a (tVar i)) (hb : DV X C W b tb fb) (hs : PlainIx b := by exact fun _ _ => rfl) : DV X C W (.Subscript a b pos) (tOp (rIxA K) (tVar i) tb) (mOpP opIx i fb) := ⟨by rw [← q.hX]; exact pe_ix (ix_seq.or (ix_dict (by have := q.un; omega))) ha hb.pe hs, by rw [← q.hK]; exact sv_opP hb.sv rw_ix⟩
theorem do_none : DO X C W none tNoPart (mRet none) := ⟨po_none, so_none⟩
theorem do_some (ha : DV X C W a ta fa) : DO X C W (some a) (tPart ta) (mSome fa) := ⟨po_some ha.pe, so_some ha.sv⟩
theorem dv_sl {bb : Bool} (q : CurB bb X C W k cls K) {lo hi : Option Expr} {tl th : TO} {fl fh : M T (Option Int)} {p2 : Pos} (ha : DV X C W a ta fa) (hl : DO X C W lo tl fl) (hh : DO X C W hi th fh) : DV X C W (.Subscript a (.Slice lo hi none p2) pos) (tSl (rSlA K) ta tl th) (mSl fa fl fh) :=
  ⟨by rw [← q.hX]; exact pe_slice sl_any ha.pe hl.pe hh.pe, by rw [← q.hK]; exact sv_sl ha.sv hl.sv hh.sv⟩
-- append
theorem dv_append {bb : Bool} (q : CurB bb X C W k cls K) (i : Nat) {o : Expr} {apos cpos : Pos} (ho : PE X o (tVar i)) (ha : DV X C W a ta fa)
    (hbase : attributeBase o "append" X.env (eval o X.env) = eval o X.env := by rfl)
    (hfew : ((backTo cpos (starEach [a] X.env)).all (fun x => !x.1) && (backToKw cpos (keywordEach [] X.env)).all (fun x => x.1.isSome)
      && decide ([a].length + ([] : List Keyword).length + (if ([] : List Keyword).isEmpty then 0 else 1) < 30)) = true := by rfl)
    (hline : (apos.endLine == cpos.line) = true := by rfl) (hs : starEach [a] X.env = (false, eval a X.env) :: starEach [] X.env := by rfl) (hplain : (backTo cpos (starEach [] X.env)).any (·.1) = false := by rfl) :
    DV X C W (.Call (.Attribute o "append" apos) [a] [] cpos) (tBM K "list" rAppend (tVar i) (tCons ta tNil)) (mAppend i fa) :=
  ⟨by rw [← q.hX]; exact pe_bm PySem.F.plainAttrs_list PySem.F.slot_list_append PySem.F.type_list_append mt_append ho (pa_cons ha.pe pa_nil hs) hbase hfew hline hs hplain, by rw [← q.hK]; exact sv_append ha.sv⟩
end

/-! ### calls of defs, raises -/
/-- a def that stands in the module's names and keeps its promise -/
structure DefP (P : Program) (w : World) (K : PySem.W.Frag) (mg : Str → Option Value) (base : Heap) (cls : Nat → Addr) (x : Str) (k : Nat) (ps : List Str) (g : List D → Rp) : Prop where
  ok : ∃ (f : Addr) (fd : FuncData), FnOk P w K mg base (L2.CX P w) k f fd ps (spP K cls g) ∧ mg x = some (.ref f) ∧ PySem.W.keepIn K (.ref f) = true ∧ Binds K fd ps []
/-- an own exception class without a body, over ValueError -/
structure ExcP (K : PySem.W.Frag) (mg : Str → Option Value) (x : Str) (c : Addr) : Prop where
  g : mg x = some (.ref c)
  ex : PySem.W.excIn K c [.type "ValueError", .type "Exception", .type "BaseException", .type "object"] "ValueError.__new__" = true
  kp : PySem.W.keepIn K (.ref c) = true
  sub : PySem.W.subIn K (.ref c) (.type "BaseException") = some true
  ty : PySem.W.typeIn K (.ref c) = some (.type "type")
section
variable {T : Type} {X : Cx} {C : Ct T} {W : WX} {k : Nat} {cls : Nat → Addr} {K : PySem.W.Frag} {a e : Expr} {es : List Expr} {pos p : Pos} {ta : TE} {fa : M T D} {tr : TA} {fr : M T (List D)}
theorem dv_call {k' : Nat} {x : Str} {ps : List Str} {g : List D → Rp} (q : Cur X C W k cls K) (F : DefP X.prog X.w X.K X.mg X.base cls x k' ps g) (hk : k' ≤ k) (ha : DA X C W (e :: es) tr fr) (hg : Gl X x := by rfl)
    (hdb : (x == ("__debug__" : Str)) = false := by decide) (he : starEach (e :: es) X.env = (false, eval e X.env) :: starEach es X.env := by rfl) (hpl : (backTo pos (starEach es X.env)).any (·.1) = false := by rfl) :
    DV X C W (.Call (.Name x p) (e :: es) [] pos) (tCallS (spP K cls g) (WE W) tr) (mCall g fr) := by
  obtain ⟨f, fd, F1, m, kp, b⟩ := F.ok
  refine ⟨?_, by rw [← q.hK, ← q.hc]; exact sv_callP ha.sv⟩
  rw [← q.hX]
  exact pe_callS F1 (q.hr.mono hk) hg m kp b (fun σ => passAt q.tk σ) ha.pe hdb he hpl
theorem pmk_own0 {x : Str} {c : Addr} (T : ExcP X.K X.mg x c) (hg : Gl X x) (hdb : (x == ("__debug__" : Str)) = false := by decide) : PMk X (.Call (.Name x p) [] [] pos) (fun _ H Q => Q (.ref c) none H) := by
  intro pins s σ H Q I h
  refine wpAny_Call_Name_kw (ld_glob I hg T.g ?_ hdb)
  refine PySem.W.callWith_K0 I.kIn T.kp ?_
  show wpAny _ _ (PySem.call (.ref c) []) _ _ _
  obtain ⟨bm, N, nm, qn, bs, hdct, sn, sub, ab, col, dd, k0, k1, k2, k3, k5, mN, hC, hN, hni, TT⟩ := exc_obj I.kIn T.ex
  refine wpAny_call_exc_subT PySem.F.excBase_ValueError TT hC hN hni (fun h' e hm => ?_) (Nat.zero_le _)
  exact mk_of I hm (raises_own T.sub T.ty) h (I.hok.gone hm.new)
def mRaise {T : Type} (c : Nat) : M T Out := fun s => .exc c s
theorem ds_raise {x : Str} {pos' : Pos} (n : Nat) (q : Cur X C W k cls K) (E : ExcP X.K X.mg x (cls n)) (hg : Gl X x := by rfl) (hdb : (x == ("__debug__" : Str)) = false := by decide) : DS X C W (.Raise (some (.Call (.Name x p) [] [] pos)) none pos') (fun _ σ H => W (.ref (cls n)) none σ H) (mRaise n) :=
  ⟨ps_raise q.calm q.tk (pmk_own0 E hg hdb), fun F0 H0 L s σ F H D g h => by rw [← q.hc]; exact h σ F H g (Same.refl F)⟩
end

/-! ### targets, iterables, comprehensions -/
section
variable {T : Type} {X : Cx} {C : Ct T} {W : WX} {k : Nat} {cls : Nat → Addr} {K : PySem.W.Frag} {a b e : Expr} {es : List Expr} {pos p : Pos} {ta tb te : TE} {fa fb fe : M T D} {tt : TT} {ft : M T Bool} {tr : TA} {fr : M T (List D)}
theorem dg_name (i : Nat) {x : Str} (q : Cur X C W k cls K) (hi : X.N[i]? = some x := by rfl) (hx : Loc X.env.scope x := by first | exact Or.inl rfl | exact Or.inr rfl) (hf : X.fn x = true ∨ X.env.scope.names.lookup x = some .local := by first | exact .inl rfl | exact .inr rfl) : DG X C (.Name x pos) (gName i) [i] (pName i) := ⟨pg_name q.nd hi hx hf, sg_name i⟩
theorem dgs_nil : DGs X C [] gNil [] pNil := ⟨pgs_nil, sgs_nil⟩
theorem dgs_cons {g : TG} {gs : TGs} {is js : List Nat} {f : D → M T Unit} {fs : List D → M T Unit} (h : DG X C e g is f) (hr : DGs X C es gs js fs) (hs : (assignEach (e :: es) X.env).map (·.2) = assign e X.env :: (assignEach es X.env).map (·.2) := by rfl) : DGs X C (e :: es) (gCons g gs) (is ++ js) (pCons f fs) := ⟨pgs_cons h.pe hr.pe hs, sgs_cons h.sv hr.sv⟩
theorem dg_tup (n : Nat) {kk : Nat} {gs : TGs} {is : List Nat} {fs : List D → M T Unit} (q : Cur X C W k cls K) (h : DGs X C es gs is fs) (hn : (assignEach es X.env).length = n := by rfl) (hst : (assignEach es X.env).findIdx? (·.1) = none := by rfl) : DG X C (.Tuple es kk pos) (gTL K n gs) is (pTup n fs) :=
  ⟨by rw [← q.hX]; exact pg_tl q.calm h.pe hn hst, by rw [← q.hK]; exact sg_tup h.sv⟩
theorem di_seq {tg : Expr} {bb : Bool} (q : CurB bb X C W k cls K) (ha : DV X C W a ta fa) : DI X C W tg a (iSeq K ta) (mIter fa) := ⟨by rw [← q.hX]; exact pi_seq ha.pe, by rw [← q.hK]; exact si_seq ha.sv⟩
theorem di_range1 {tg : Expr} (hm : X.mg "range" = none) (ha : DV X C W a ta fa) (hg : Gl X "range" := by rfl) (hs : starEach [a] X.env = [(false, eval a X.env)] := by rfl) : DI X C W tg (.Call (.Name "range" p) [a] [] pos) (iRng1 (tCons ta tNil)) (mRange1 fa) := ⟨pi_range1 hg hm (pa_cons ha.pe pa_nil hs) hs, si_range1 ha.sv⟩
theorem di_range2 {tg : Expr} (hm : X.mg "range" = none) (ha : DV X C W a ta fa) (hb : DV X C W b tb fb) (hg : Gl X "range" := by rfl) (hs : starEach [a, b] X.env = [(false, eval a X.env), (false, eval b X.env)] := by rfl) (hs2 : starEach [b] X.env = [(false, eval b X.env)] := by rfl) :
    DI X C W tg (.Call (.Name "range" p) [a, b] [] pos) (iRng2 (tCons ta (tCons tb tNil))) (mRange2 fa fb) := ⟨pi_range2 hg hm (pa_cons ha.pe (pa_cons hb.pe pa_nil hs2) (by rw [hs, hs2])) hs hs2, si_range2 ha.sv hb.sv⟩
theorem di_zip {elts : List Expr} {kk : Nat} {tpos : Pos} (q : Cur X C W k cls K) (hm : X.mg "zip" = none) (ha : DV X C W a ta fa) (hb : DV X C W b tb fb) (hg : Gl X "zip" := by rfl) (hs : starEach [a, b] X.env = (false, eval a X.env) :: starEach [b] X.env := by rfl) (hs2 : starEach [b] X.env = (false, eval b X.env) :: starEach [] X.env := by rfl) (hpl : (backTo pos (starEach [b] X.env)).any (·.1) = false := by rfl) :
    DI X C W (.Tuple elts kk tpos) (.Call (.Name "zip" p) [a, b] [] pos) (iZipA K (tCons ta (tCons tb tNil))) (mZip fa fb) := ⟨by rw [← q.hX]; exact pi_zipA hg hm (pa_cons ha.pe (pa_cons hb.pe pa_nil hs2) hs) hs hpl, by rw [← q.hK]; exact si_zip ha.sv hb.sv⟩
theorem dts_nil : DTs X C W [] tYes (mRet true) := ⟨pts_nil, fun F0 H0 L s σ F H Q g h => po_ret h g⟩
theorem dts_one (h : DT X C W a tt ft) : DTs X C W [a] tt ft := ⟨pts_one h.pe, h.sv⟩
/-- [e for tg in it if ..] -/
theorem de_lc {elt tg iter : Expr} {ifs : List Expr} {scope : Scope} {own : List (Str × Nat)} {wi : TI} {fi : M T (List D)} {g : TG} {is : List Nat} {f : D → M T Unit} (q : Cur X C W k cls K) (vs : List Nat) (hv : own.map (·.2) = vs) (his : ∀ i ∈ is, i ∈ vs) (hi : DI X C W tg iter wi fi) (ok : BlkOk X.N X.env.scope scope own)
    (hg : ∀ (s : Shared) (H : Hp) (Ca : Addr) (cl : List (Str × Addr)) (fp : List Addr), Cur (X.blk s H scope (compEnvC scope cl Ca X.env) fp) C W0 k cls K → DG (X.blk s H scope (compEnvC scope cl Ca X.env) fp) C tg g is f)
    (ht : ∀ (s : Shared) (H : Hp) (Ca : Addr) (cl : List (Str × Addr)) (fp : List Addr), Cur (X.blk s H scope (compEnvC scope cl Ca X.env) fp) C W0 k cls K → DTs (X.blk s H scope (compEnvC scope cl Ca X.env) fp) C W0 ifs tt ft)
    (he : ∀ (s : Shared) (H : Hp) (Ca : Addr) (cl : List (Str × Addr)) (fp : List Addr), Cur (X.blk s H scope (compEnvC scope cl Ca X.env) fp) C W0 k cls K → DV (X.blk s H scope (compEnvC scope cl Ca X.env) fp) C W0 elt te fe) (hs : ∀ x, foldedSetIterable iter X.env x = pure x := by intro _; rfl) :
    DE X C W (.ListComp elt [⟨tg, iter, ifs, 0⟩] scope pos) (tLc wi g tt te vs) (mLc vs fi f ft fe) := by
  subst hv
  refine ⟨pe_lc q.calm q.nd hi.pe ok (fun s H Ca cl fp => (hg s H Ca cl fp (q.blk _ _ _ _ _)).pe) (fun s H Ca cl fp => (ht s H Ca cl fp (q.blk _ _ _ _ _)).pe) (fun s H Ca cl fp => (he s H Ca cl fp (q.blk _ _ _ _ _)).pe) hs, ?_⟩
  exact se_lc hi.sv (hg ({} : Shared) (fun _ => none) 0 [] [] (q.blk _ _ _ _ _)).sv his (ht ({} : Shared) (fun _ => none) 0 [] [] (q.blk _ _ _ _ _)).sv (he ({} : Shared) (fun _ => none) 0 [] [] (q.blk _ _ _ _ _)).sv
/-- x = [e for tg in it if ..] where the name is a plain local -/
theorem ds_setLc {elt tg iter : Expr} {ifs : List Expr} {scope : Scope} {own : List (Str × Nat)} {wi : TI} {fi : M T (List D)} {g : TG} {is : List Nat} {f : D → M T Unit} {y : Str} {py spos : Pos} (i : Nat) (q : Cur X C W k cls K) (vs : List Nat) (hv : own.map (·.2) = vs) (his : ∀ i ∈ is, i ∈ vs) (hi : DI X C W tg iter wi fi) (ok : BlkOk X.N X.env.scope scope own)
    (hg : ∀ (s : Shared) (H : Hp) (Ca : Addr) (cl : List (Str × Addr)) (fp : List Addr), Cur (X.blk s H scope (compEnvC scope cl Ca X.env) fp) C W0 k cls K → DG (X.blk s H scope (compEnvC scope cl Ca X.env) fp) C tg g is f)
    (ht : ∀ (s : Shared) (H : Hp) (Ca : Addr) (cl : List (Str × Addr)) (fp : List Addr), Cur (X.blk s H scope (compEnvC scope cl Ca X.env) fp) C W0 k cls K → DTs (X.blk s H scope (compEnvC scope cl Ca X.env) fp) C W0 ifs tt ft)
    (he : ∀ (s : Shared) (H : Hp) (Ca : Addr) (cl : List (Str × Addr)) (fp : List Addr), Cur (X.blk s H scope (compEnvC scope cl Ca X.env) fp) C W0 k cls K → DV (X.blk s H scope (compEnvC scope cl Ca X.env) fp) C W0 elt te fe) (hy : X.N[i]? = some y := by rfl) (hyl : X.env.scope.names.lookup y = some .local := by rfl)
    (hsw : swapsWith (.ListComp elt [⟨tg, iter, ifs, 0⟩] scope pos) (some (.Name y py)) spos.line X.env = pure true := by exact sw_true rfl rfl rfl (by decide +kernel)) (hs : ∀ x, foldedSetIterable iter X.env x = pure x := by intro _; rfl) :
    DS X C W (.Assign [.Name y py] (.ListComp elt [⟨tg, iter, ifs, 0⟩] scope pos) spos) (tAsg (tLc wi g tt te vs) (gName i)) (mSet i (mLc vs fi f ft fe)) := by
  have d := de_lc (pos := pos) q vs hv his hi ok hg ht he hs
  subst hv
  exact ⟨ps_setLc q.calm q.nd hy hyl hsw hi.pe ok (fun s H Ca cl fp => (hg s H Ca cl fp (q.blk _ _ _ _ _)).pe) (fun s H Ca cl fp => (ht s H Ca cl fp (q.blk _ _ _ _ _)).pe) (fun s H Ca cl fp => (he s H Ca cl fp (q.blk _ _ _ _ _)).pe) hs, sb_set i d.sv⟩
end

/-! ### statements -/
section
variable {T : Type} {X : Cx} {C : Ct T} {W : WX} {k : Nat} {cls : Nat → Addr} {K : PySem.W.Frag} {a b e c : Expr} {es : List Expr} {pos p : Pos} {ta tb te : TE} {fa fb fe : M T D} {tc : TT} {fc : M T Bool} {tr : TA} {fr : M T (List D)} {st : Stmt} {sts body orelse : List Stmt} {t u : TS} {f f' : M T Out}
theorem dss_nil : DSs X C W [] tNext (mRet .nx) := ⟨pss_nil, sb_next⟩
theorem dss_one (h : DS X C W st t f) : DSs X C W [st] t f := ⟨pss_one h.pe, h.sv⟩
theorem dss_cons (h : DS X C W st t f) (hr : DSs X C W sts u f') : DSs X C W (st :: sts) (tSeq t u) (mSeq f f') := ⟨pss_cons h.pe hr.pe, sb_seq h.sv hr.sv⟩
theorem ds_pass : DS X C W (.Pass pos) tNext (mRet .nx) := ⟨ps_pass, sb_next⟩
theorem ds_break : DS X C W (.Break pos) tBreak (mRet .bk) := ⟨ps_break, sb_break⟩
theorem ds_cont : DS X C W (.Continue pos) tCont (mRet .ct) := ⟨ps_continue, sb_cont⟩
theorem ds_ret (h : DV X C W e te fe) : DS X C W (.Return (some e) pos) (tRet te) (mReturn fe) := ⟨ps_ret h.pe, sb_ret h.sv⟩
theorem ds_retN : DS X C W (.Return none pos) tRetN (mRet (.ret .none)) := ⟨ps_retN, sb_retN⟩
theorem ds_expr (h : DV X C W e te fe) (hs : swapsWith e none pos.line X.env = pure false := by rfl) : DS X C W (.Expr e pos) (tDrop te) (mExpr fe) := ⟨ps_expr h.pe hs, sb_expr h.sv⟩
theorem ds_if (hc : DT X C W c tc fc) (ha : DSs X C W body t f) (hb : DSs X C W orelse u f') : DS X C W (.If c body orelse pos) (tIfS tc t u) (mIf fc f f') := ⟨ps_if hc.pe ha.pe hb.pe, sb_if hc.sv ha.sv hb.sv⟩
theorem ds_set {fs : M T Slot} {x : Str} {pos' : Pos} (i : Nat) {bb : Bool} (q : CurB bb X C W k cls K) (h : DE X C W e te fs) (hi : X.N[i]? = some x := by rfl) (hx : Loc X.env.scope x := by first | exact Or.inl rfl | exact Or.inr rfl) (hs : swapsWith e (some (.Name x pos')) pos.line X.env = pure false := by rfl)
    (hf : X.fn x = true ∨ X.env.scope.names.lookup x = some .local := by first | exact .inl rfl | exact .inr rfl) : DS X C W (.Assign [.Name x pos'] e pos) (tAsg te (gName i)) (mSet i fs) := ⟨ps_set q.nd hi hx h.pe hs hf, sb_set i h.sv⟩
/-- tuple targets, a value -/
theorem ds_setG {tg : Expr} {g : TG} {is : List Nat} {fg : D → M T Unit} (h : DV X C W e te fe) (hg : DG X C tg g is fg) (hs : swapsWithSole [tg] e pos.line X.env = pure false := by rfl) (hw : swappedStores [tg] e X.env = pure none := by rfl)
    (h1 : (assignEach [tg] X.env).map (·.2) = [assign tg X.env] := by rfl) : DS X C W (.Assign [tg] e pos) (tAsg te g) (mSetG fg fe) := ⟨ps_asg h.pe hg.pe hs hw h1, sb_setG h.sv hg.sv⟩
variable {tas : TA} {fas : M T (List Slot)}
theorem ds_par {x y : Str} {px py pt : Pos} {kt k2 : Nat} {pt2 : Pos} (i j : Nat) (q : Cur X C W k cls K) (ha : DAs X C W [a, b] tas fas) (hij : i ≠ j := by decide) (hi : X.N[i]? = some x := by rfl) (hj : X.N[j]? = some y := by rfl)
    (hx : X.env.scope.names.lookup x = some .local := by rfl) (hy : X.env.scope.names.lookup y = some .local := by rfl)
    (hw : swappedStores [.Tuple [.Name x px, .Name y py] kt pt] (.Tuple [a, b] k2 pt2) X.env = pure (some [x, y]) := by rfl)
    (hs : swapsWithSole [.Tuple [.Name x px, .Name y py] kt pt] (.Tuple [a, b] k2 pt2) pos.line X.env = pure false := by rfl) :
    DS X C W (.Assign [.Tuple [.Name x px, .Name y py] kt pt] (.Tuple [a, b] k2 pt2) pos) (tPar i j tas) (mSets fas [i, j]) := ⟨ps_par q.calm q.nd hi hj hij hx hy ha.pe hw hs, sb_par ha.sv⟩
theorem ds_par3 {x y z : Str} {px py pz pt : Pos} {kt k2 : Nat} {pt2 : Pos} (i j l : Nat) (q : Cur X C W k cls K) (ha : DAs X C W [a, b, c] tas fas) (hij : i ≠ j := by decide) (hil : i ≠ l := by decide) (hjl : j ≠ l := by decide) (hi : X.N[i]? = some x := by rfl) (hj : X.N[j]? = some y := by rfl) (hl : X.N[l]? = some z := by rfl)
    (hx : X.env.scope.names.lookup x = some .local := by rfl) (hy : X.env.scope.names.lookup y = some .local := by rfl) (hz : X.env.scope.names.lookup z = some .local := by rfl)
    (hw : swappedStores [.Tuple [.Name x px, .Name y py, .Name z pz] kt pt] (.Tuple [a, b, c] k2 pt2) X.env = pure (some [x, y, z]) := by rfl)
    (hs : swapsWithSole [.Tuple [.Name x px, .Name y py, .Name z pz] kt pt] (.Tuple [a, b, c] k2 pt2) pos.line X.env = pure false := by rfl) :
    DS X C W (.Assign [.Tuple [.Name x px, .Name y py, .Name z pz] kt pt] (.Tuple [a, b, c] k2 pt2) pos) (tPar3 i j l tas) (mSets fas [i, j, l]) := ⟨ps_par3 q.calm q.nd hi hj hl hij hil hjl hx hy hz ha.pe hw hs, sb_par3 ha.sv⟩
/-- names of which one is a cell: the tuple is made -/
theorem ds_tupset {tgs : List Expr} {k1 k2 : Nat} {pt pt2 : Pos} {is : List Nat} (q : Cur X C W k cls K) (n : Nat) (hn : n = is.length) (hg : PGs X tgs (gNames is)) (ha : DAs X C W es tas fas) (hl : (assignEach tgs X.env).length = n := by rfl) (hst : (assignEach tgs X.env).findIdx? (·.1) = none := by rfl)
    (hs : swapsWithSole [.Tuple tgs k1 pt] (.Tuple es k2 pt2) pos.line X.env = pure false := by rfl) (hw : swappedStores [.Tuple tgs k1 pt] (.Tuple es k2 pt2) X.env = pure none := by rfl)
    (h1 : (assignEach [.Tuple tgs k1 pt] X.env).map (·.2) = [assign (.Tuple tgs k1 pt) X.env] := by rfl) : DS X C W (.Assign [.Tuple tgs k1 pt] (.Tuple es k2 pt2) pos) (tAsg (tTup tas) (gTup K n (gNames is))) (mSets fas is) :=
  ⟨by rw [← q.hX]; exact ps_asg (pe_tup ha.pe) (pg_tup q.calm hg hl hst) hs hw h1, by rw [← q.hK]; exact sb_tupset hn ha.sv⟩
theorem pgn_nil : PGs X [] (gNames []) := pgs_nil
theorem pgn_cons (i : Nat) {x : Str} {is : List Nat} (hN : X.N.Nodup) (hr : PGs X es (gNames is)) (hi : X.N[i]? = some x := by rfl) (hx : Loc X.env.scope x := by first | exact Or.inl rfl | exact Or.inr rfl) (hf : X.fn x = true ∨ X.env.scope.names.lookup x = some .local := by first | exact .inl rfl | exact .inr rfl)
    (hs : (assignEach (.Name x pos :: es) X.env).map (·.2) = assign (.Name x pos) X.env :: (assignEach es X.env).map (·.2) := by rfl) : PGs X (.Name x pos :: es) (gNames (i :: is)) := pgs_cons (pg_name hN hi hx hf) hr hs
theorem ds_for {tg iter : Expr} {wi : TI} {fi : M T (List D)} {g : TG} {is : List Nat} {fg : D → M T Unit} (q : Cur X C W k cls K) (hp : PassesOwn (model X.prog X.w) X.A X.env X.xe) (hi : DI X C W tg iter wi fi) (hg : DG X C tg g is fg) (hb : DSs X C W body t f)
    (hs : ∀ x, foldedSetIterable iter X.env x = pure x := by intro _; rfl) : DS X C W (.For tg iter body [] pos) (tFor wi g t) (mFor fi fg f) := ⟨ps_for hp q.calm hi.pe hg.pe hb.pe hs, sb_for hi.sv hg.sv hb.sv⟩
theorem ds_while (μ : S T → Nat) (hp : PassesOwn (model X.prog X.w) X.A X.env X.xe) (hc : DT X C W c tc fc) (hb : DSs X C W body t f) : DS X C W (.While c body [] pos) (tWhile tc t) (mWhile μ fc f) := ⟨ps_while hp hc.pe hb.pe, sb_while μ hc.sv hb.sv⟩
theorem ds_aug {x : Str} {op : Operator} {r : R2} {fop : D → D → Option D} {pos' : Pos} (i : Nat) (q : Cur X C W k cls K) (ho : PIp X op r) (hr : Rv C r fop) (h : DV X C W e te fe) (hi : X.N[i]? = some x := by rfl) (hx : Loc X.env.scope x := by first | exact Or.inl rfl | exact Or.inr rfl)
    (hf : X.fn x = true ∨ X.env.scope.names.lookup x = some .local := by first | exact .inl rfl | exact .inr rfl) : DS X C W (.AugAssign (.Name x pos') op e pos) (tAug i te r) (mAug i fop fe) := ⟨ps_aug q.nd hi hx h.pe ho hf, sb_aug h.sv hr⟩
end
end Pm

set_option Elab.async false
set_option linter.all false
set_option maxRecDepth 100000
/-! Defs that are handed the script and the town; the draw. -/
namespace Pm
open PySem L2 RZ

inductive Rt (T : Type) where
  | ok (d : D) (t : T) | exc (c : Nat) (t : T) | stuck
section
variable {T : Type}
structure AftT (C : Ct T) (F H F' H' : Hp) (t' : T) : Prop where
  ex : Same F F'
  sub : Sub F' H'
  nw : ∀ a o, F' a = some o → F a = some o ∨ H a = none ∨ (C.loose = true ∧ ∃ xs, o = .tup xs)
  st : ∀ a o, H a = some o → a ∉ C.fp → H' a = some o
  fpF : ∀ a ∈ C.fp, F' a = none
  fpH : ∀ a ∈ C.fp, H' a ≠ none
  j : C.J t' F' H'
def ArgT (C : Ct T) (F : Hp) (v : V) : Slot → Prop
  | .fz d => Rep C.K F v d
  | .pt n => v = .ref (C.ptr n)
  | _ => False
def ArgsT (C : Ct T) (F : Hp) : List V → List Slot → Prop
  | [], [] => True
  | v :: vs, x :: xs => ArgT C F v x ∧ ArgsT C F vs xs
  | _, _ => False
def spT (C : Ct T) (g : List Slot → T → Rt T) : Sp := fun vs H Q E => ∃ F xs t, Sub F H ∧ C.J t F H ∧ (∀ a ∈ C.fp, F a = none ∧ H a ≠ none) ∧ ArgsT C F vs xs ∧
  match g xs t with
  | .ok d t' => ∀ v F' H', AftT C F H F' H' t' → Rep C.K F' v d → Q v H'
  | .exc c t' => ∀ F' H', AftT C F H F' H' t' → E (.ref (C.cls c)) none H'
  | .stuck => False
/-- .. whichever the context's addresses are -/
def spX (Cs : Ct T → Prop) (g : List Slot → T → Rt T) : Sp := fun vs H Q E => ∃ C, Cs C ∧ spT C g vs H Q E
def argOk : Slot → Bool
  | .fz _ => true
  | .pt _ => true
  | _ => false
def mCallT (g : List Slot → T → Rt T) (fr : M T (List Slot)) : M T D := mBind fr fun xs s => if xs.all argOk = true then match g xs s.t with
  | .ok d t' => .ok d ⟨s.env, t'⟩
  | .exc c t' => .exc c ⟨s.env, t'⟩
  | .stuck => .stuck else .stuck
variable {C : Ct T} {W : WX} {F0 H0 F F1 H : Hp} {L : Nat → Option Addr} {s : S T} {σ : L2.St}
theorem Good.aftT {F' H' : Hp} {t' : T} (g : Good C F0 H0 L s σ F H) (a : AftT C F H F' H' t') : Good C F0 H0 L ⟨s.env, t'⟩ σ F' H' where
  len := g.len
  sub := a.sub
  ext0 := g.ext0.trans a.ex
  base := fun b o h z => a.st b o (g.base b o h z) z
  newF := fun b o h => by
    rcases a.nw b o h with z | z | z
    · exact g.newF b o z
    · exact .inr (.inl (g.fresh z).2.1)
    · exact .inr (.inr z)
  fp0 := g.fp0
  fpF := a.fpF
  fpH := a.fpH
  lH := g.lH
  slots := fun i x h => by
    have k := g.slots i x h
    have fr : ∀ p o, F p = none → H p = some o → p ∉ C.fp → (∀ xs, o ≠ .tup xs) → F' p = none := fun p o h1 h2 hnf hto => by
      cases q : F' p with
      | none => rfl
      | some o' =>
        rcases a.nw p o' q with y | y | ⟨_, xs, rfl⟩
        · rw [h1] at y; cases y
        · rw [h2] at y; cases y
        · have k1 := a.st p o h2 hnf
          rcases a.sub p _ q with k2 | ⟨⟨ks, k2⟩, _⟩
          · rw [k1] at k2; cases k2; exact absurd rfl (hto xs)
          · cases k2
    cases x with
    | un => trivial
    | fz d =>
      obtain ⟨v, h1, h2⟩ := k
      exact ⟨v, h1, h2.mono a.ex⟩
    | ol xs =>
      obtain ⟨p, vs, h1, h2, h3, h4, h5⟩ := k
      exact ⟨p, vs, h1, fr p _ h2 h4 (fun z => g.fp0 p z h3) (fun _ z => nomatch z), h3, a.st _ _ h4 (fun z => g.fp0 p z h3), h5.mono a.ex⟩
    | od kvs =>
      obtain ⟨p, vs, h1, h2, h3, h4, h5⟩ := k
      exact ⟨p, vs, h1, fr p _ h2 h4 (fun z => g.fp0 p z h3) (fun _ z => nomatch z), h3, a.st _ _ h4 (fun z => g.fp0 p z h3), h5.mono a.ex⟩
    | pt n => exact k
    | bw xs =>
      obtain ⟨q, vs, h1, h2, h3, h4, h5⟩ := k
      exact ⟨q, vs, h1, h2, h3, h4, h5.mono a.ex⟩
  sep := g.sep
  j := a.j
theorem args_of : ∀ {vs : List V} {xs : List Slot}, SlotVs C H0 s σ F H vs xs → xs.all argOk = true → ArgsT C F vs xs
  | [], [], _, _ => trivial
  | v :: vs, x :: xs, h, k => by
    rw [List.all_cons, Bool.and_eq_true] at k
    refine ⟨?_, args_of h.2.1 k.2⟩
    have h1 := h.1
    cases x with
    | fz d => exact h1
    | pt n => exact h1
    | _ => cases k.1
  | [], _ :: _, h, _ => h.elim
  | _ :: _, [], h, _ => h.elim
theorem sv_callT {Cs : Ct T → Prop} (hC : Cs C) {g : List Slot → T → Rt T} {tr : TA} {fr : M T (List Slot)} (ha : Sas C W tr fr) : Sv C W (tCallS (spX Cs g) (WE W) tr) (mCallT g fr) := by
  intro F0 H0 L s σ F H Q gd h
  refine ha _ _ _ _ _ _ _ _ gd (po_imp (po_bind h) fun xs s1 F1 H1 g1 e1 h1 vs rv => ?_)
  by_cases hk : xs.all argOk = true
  · rw [if_pos hk] at h1
    refine ⟨C, hC, F1, xs, s1.t, g1.sub, g1.j, fun a z => ⟨g1.fpF a z, g1.fpH a z⟩, args_of rv hk, ?_⟩
    cases q : g xs s1.t with
    | ok d t' =>
      simp only [q] at h1
      exact fun v F' H' a r => h1 F' H' (g1.aftT a) a.ex v r
    | exc c t' =>
      simp only [q] at h1
      exact fun F' H' a => h1 F' H' (g1.aftT a) a.ex
    | stuck => simp only [q] at h1; exact h1.elim
  · rw [if_neg hk] at h1; exact h1.elim
def mPt (i : Nat) : M T Slot := fun s => match s.env[i]? with
  | some (.pt n) => .ok (.pt n) s
  | _ => .stuck
theorem se_pt (i : Nat) : Se C W (tVar i) (mPt i) := by
  intro F0 H0 L s σ F H Q g h
  unfold mPt at h
  cases q : s.env[i]? with
  | none => rw [q] at h; exact h.elim
  | some x =>
    rw [q] at h
    cases x with
    | pt n => exact ⟨_, g.slots i _ q, h F H g (Same.refl F) _ rfl⟩
    | _ => exact h.elim
def outOfT : Res T Out → Rt T
  | .ok (.ret d) s => .ok d s.t
  | .ok .nx s => .ok .none s.t
  | .exc c s => .exc c s.t
  | _ => .stuck
def fnT (k n : Nat) (body : M T Out) (xs : List Slot) (t : T) : Rt T := if xs.length = k ∧ xs.all argOk = true then outOfT (body ⟨xs ++ List.replicate (n - k) .un, t⟩) else .stuck
theorem ArgsT.length : ∀ {vs : List V} {xs : List Slot}, ArgsT C F vs xs → vs.length = xs.length
  | [], [], _ => rfl
  | _ :: _, _ :: _, h => congrArg Nat.succ (ArgsT.length h.2)
  | [], _ :: _, h => h.elim
  | _ :: _, [], h => h.elim
theorem ArgsT.at : ∀ {vs : List V} {xs : List Slot} {i : Nat} {x : Slot}, ArgsT C F vs xs → xs[i]? = some x → ∃ v, vs[i]? = some v ∧ ArgT C F v x
  | [], [], _, _, _, h => by simp at h
  | v :: vs, x :: xs, 0, y, q, h => by simp at h; subst h; exact ⟨v, rfl, q.1⟩
  | v :: vs, x :: xs, j + 1, y, q, h => by
    obtain ⟨w, h1, h2⟩ := ArgsT.at (i := j) q.2 (by simpa using h)
    exact ⟨w, by simpa using h1, h2⟩
  | [], _ :: _, _, _, h, _ => h.elim
  | _ :: _, [], _, _, h, _ => h.elim
end
section
variable {P : Program} {w : World} {K : PySem.W.Frag} {mg : Str → Option Value} {base : Heap} {T : Type}
/-- a body's reading from its promise -/
theorem body_T {Cs : Ct T → Prop} {N ps : List Str} {m : M T Out} {t : TS} {vs : List V} {H : Hp} {Q : VK} {E : XK} (hpl : ps.length ≤ N.length) (sb : ∀ C, Cs C → Sb C (WofE E) t m) (h : spX Cs (fnT ps.length N.length m) vs H Q E) : t { nx := fun _ H' => Q .non H', rt := Q } (L2.start N vs) H := by
  obtain ⟨C, hC, F1, xs, t0, u, j, fp, r, q⟩ := h
  unfold fnT at q
  by_cases hl : xs.length = ps.length ∧ xs.all argOk = true
  · rw [if_pos hl] at q
    have hlv := r.length
    have hat : ∀ (i : Nat) (x : Slot), (xs ++ List.replicate (N.length - ps.length) Slot.un)[i]? = some x → x = .un ∨ ∃ v, (L2.start N vs)[i]? = some (some v) ∧ ArgT C F1 v x := fun i x hx => by
      by_cases hi : i < xs.length
      · rw [List.getElem?_append_left hi] at hx
        obtain ⟨v, h1, h2⟩ := r.at hx
        refine .inr ⟨v, ?_, h2⟩
        unfold L2.start
        rw [List.getElem?_append_left (by rw [List.length_map]; omega), List.getElem?_map, h1]
        rfl
      · rw [List.getElem?_append_right (by omega), List.getElem?_replicate] at hx
        split at hx
        · cases hx; exact .inl rfl
        · cases hx
    have g : Good C F1 H (fun _ => none) ⟨xs ++ List.replicate (N.length - ps.length) .un, t0⟩ (L2.start N vs) F1 H :=
      { len := by
          unfold L2.start
          simp only [List.length_append, List.length_replicate, List.length_map]
          omega
        sub := u
        ext0 := Same.refl _
        base := fun a o e _ => e
        newF := fun a o e => .inl e
        fp0 := fun a z => (fp a z).2
        fpF := fun a z => (fp a z).1
        fpH := fun a z => (fp a z).2
        lH := fun _ _ z => nomatch z
        slots := fun i x hx => by
          rcases hat i x hx with rfl | ⟨v, h1, h2⟩
          · trivial
          · cases x with
            | fz d => exact ⟨v, h1, h2⟩
            | pt n => exact h1.trans (congrArg (fun z => some (some z)) h2)
            | _ => exact h2.elim
        sep := fun i j x y p _ hx _ ox => by
          rcases hat i x hx with rfl | ⟨v, h1, h2⟩
          · cases ox
          · cases x with
            | ol _ => exact h2.elim
            | od _ => exact h2.elim
            | _ => cases ox
        j := j }
    have aft : ∀ s' σ' F' H', Good C F1 H (fun _ => none) s' σ' F' H' → Same F1 F' → AftT C F1 H F' H' s'.t := fun s' σ' F' H' g' e => ⟨e, g'.sub, g'.newF, fun a o h z => g'.base a o h z, g'.fpF, g'.fpH, g'.j⟩
    refine sb C hC _ _ _ _ _ _ _ _ g ?_
    cases e : m ⟨xs ++ List.replicate (N.length - ps.length) .un, t0⟩ with
    | stuck => rw [e] at q; exact q.elim
    | exc c s' =>
      rw [e] at q
      exact fun σ' F' H' g' e' => q F' H' (aft s' σ' F' H' g' e')
    | ok o s' =>
      rw [e] at q
      cases o with
      | bk => exact q.elim
      | ct => exact q.elim
      | nx => exact fun σ' F' H' g' e' => q .non F' H' (aft s' σ' F' H' g' e') .non
      | ret d => exact fun v σ' F' H' g' e' r' => q v F' H' (aft s' σ' F' H' g' e') r'
  · rw [if_neg hl] at q; exact q.elim
theorem okT {Cs : Ct T → Prop} {x qual : Str} {st : Stmt} {f : Addr} {fd : FuncData} {N ps : List Str} {k : Nat} {m : M T Out} (F : Fun K x qual st f fd) (S : FnScope N ps (defScope st))
    (hbody : ∀ (cdv : Value) (A : Around) (outer : List Env) (s : Shared) (H : Hp) (E : XK), Room k (A.deeper (PyProof.Rows.envOfC qual (defScope st) s.heap.objs.size f cdv)) →
      ∃ t, PSs (cxOf (L2.CX P w) P w K mg base N qual (defScope st) f cdv A outer s H E) (defBody st) t ∧ ∀ C, Cs C → Sb C (WofE E) t m) :
    FnOk P w K mg base (L2.CX P w) (k + 1) f fd ps (spX Cs (fnT ps.length N.length m)) := by
  have hpl : ps.length ≤ N.length := by
    have e := congrArg List.length S.pre
    rw [List.length_take] at e
    omega
  refine F.okX S (fun vs H Q E h => ?_) (fun cdv A outer s H vs Q E hr h => ?_)
  · obtain ⟨C, hC, F1, xs, t, u, j, fp, r, q⟩ := h
    unfold fnT at q
    by_cases hl : xs.length = ps.length ∧ xs.all argOk = true
    · rw [r.length, hl.1]
    · rw [if_neg hl] at q; exact q.elim
  · obtain ⟨t, ht, sb⟩ := hbody cdv A outer s H E hr
    exact ⟨t, ht, body_T hpl sb h⟩
end

/-- a def by its promise of any kind -/
structure DefX (P : Program) (w : World) (K : PySem.W.Frag) (mg : Str → Option Value) (base : Heap) (x : Str) (k : Nat) (ps : List Str) (sp : Sp) : Prop where
  ok : ∃ (f : Addr) (fd : FuncData), FnOk P w K mg base (L2.CX P w) k f fd ps sp ∧ mg x = some (.ref f) ∧ PySem.W.keepIn K (.ref f) = true ∧ Binds K fd ps []
section
variable {T : Type} {X : Cx} {C : Ct T} {W : WX} {k : Nat} {cls : Nat → Addr} {K : PySem.W.Frag} {e : Expr} {es : List Expr} {pos p : Pos} {tr : TA} {fr : M T (List Slot)}
theorem de_pt (i : Nat) {x : Str} (hN : X.N[i]? = some x := by rfl) (hv : Vis X.env.scope x := by first | exact Or.inl rfl | exact Or.inr (Or.inl rfl) | exact Or.inr (Or.inr rfl)) (hd : (x == ("__debug__" : Str)) = false := by decide)
    (hcd : (x == ("__classdict__" : Str)) = false := by decide) : DE X C W (.Name x pos) (tVar i) (mPt i) := ⟨pe_var hN hv hd hcd, se_pt i⟩
theorem dv_callT {Cs : Ct T → Prop} {k' : Nat} {x : Str} {ps : List Str} {g : List Slot → T → Rt T} (q : Cur X C W k cls K) (hC : Cs C) (F : DefX X.prog X.w X.K X.mg X.base x k' ps (spX Cs g)) (hk : k' ≤ k) (ha : DAs X C W (e :: es) tr fr) (hg : Gl X x := by rfl)
    (hdb : (x == ("__debug__" : Str)) = false := by decide) (he : starEach (e :: es) X.env = (false, eval e X.env) :: starEach es X.env := by rfl) (hpl : (backTo pos (starEach es X.env)).any (·.1) = false := by rfl) :
    DV X C W (.Call (.Name x p) (e :: es) [] pos) (tCallS (spX Cs g) (WE W) tr) (mCallT g fr) := by
  obtain ⟨f, fd, F1, m, kp, b⟩ := F.ok
  exact ⟨pe_callS F1 (q.hr.mono hk) hg m kp b (fun σ => passAt q.tk σ) ha.pe hdb he hpl, sv_callT hC ha.sv⟩
end

/-! ### the script and the town -/
structure Town where
  ns : List Int
  c : Int
  r : Int
/-- the names that the lambdas of a program bear -/
def lamQ : Nat → Str
  | 0 => "good_table.<locals>.<lambda>"
  | _ => "moments.<locals>.<lambda>"
/-- the tables of the defs that make a lambda: where, and its name; told by the far end of cls -/
def tabs (cls : Nat → Addr) : List (Addr × Str) := (List.range (cls 900)).map fun i => (cls (1000 + 2 * i), lamQ (cls (1001 + 2 * i)))
def TabJ (T : List (Addr × Str)) (F H : Hp) : Prop := ∀ q ∈ T, ∃ ps : Array Value, H q.1 = some (.tbl ps) ∧ TriplesOk ps.toList ∧ ∀ (pos : Pos) (cv : Value), codeAmong pos ps.toList = some cv → ∃ c, cv = .ref c ∧ F c = some (LamX.CodeO c q.2)
theorem TabJ.stab {T : List (Addr × Str)} {F H F' H' : Hp} (h : TabJ T F H) (e : Same F F') (k : ∀ q ∈ T, H' q.1 = H q.1) : TabJ T F' H' := fun q hq => by
  obtain ⟨ps, h1, h2, h3⟩ := h q hq
  refine ⟨ps, by rw [k q hq]; exact h1, h2, fun pos cv hc => ?_⟩
  obtain ⟨c, e1, e2⟩ := h3 pos cv hc
  exact ⟨c, e1, e _ _ e2⟩
def CT (K : PySem.W.Frag) (cls : Nat → Addr) (a p : Addr) : Ct Town where
  ptr := fun n => if n = 0 then a else p
  fp := p :: (tabs cls).map (·.1)
  J := fun t F H => (SqL K F a (t.ns.map V.int) ∧ H p = some (.lst [.int t.c, .int t.r]) ∧ 0 ≤ t.c ∧ t.ns.length ≤ 63) ∧ TabJ (tabs cls) F H
  stab := fun t F H F' H' h e k => ⟨⟨by
    rcases h.1.1 with (z | ⟨o, z⟩) | z
    · exact .inl (.inl (e _ _ z))
    · exact .inl (.inr ⟨o, e _ _ z⟩)
    · exact .inr z, by rw [k p List.mem_cons_self]; exact h.1.2.1, h.1.2.2⟩, h.2.stab e fun q hq => k q.1 (List.mem_cons_of_mem _ (List.mem_map.mpr ⟨q, hq, rfl⟩))⟩
  loose := true
  K := K
  cls := cls
def CTs (K : PySem.W.Frag) (cls : Nat → Addr) : Ct Town → Prop := fun C => ∃ a p, C = CT K cls a p
/-- a draw: what comes, the town behind -/
def drawF (t : Town) (n : Int) : Int × Town :=
  if 0 < t.r then (t.r % n, { t with r := t.r / n })
  else if t.ns = [] then (t.c % n, { t with c := t.c + 1 })
  else if t.c < t.ns.length ∧ 10 ^ 18 ≤ t.ns.getD t.c.toNat 0 then (t.ns.getD t.c.toNat 0 % n, { t with c := t.c + 1, r := t.ns.getD t.c.toNat 0 / n % (10 ^ 60 * 10 ^ 60) })
  else (((t.ns.getD (t.c % t.ns.length).toNat 0 * 1103515245 + 7919 * t.c + 12345) % 2147483647) ^ 5 % 2147483647 % 999983 % n, { t with c := t.c + 1 })
def gDraw : List Slot → Town → Rt Town
  | [.pt 0, .pt 1, .fz (.int n)], t => if 0 < n ∧ n < 1000000 then .ok (.int (drawF t n).1) (drawF t n).2 else .stuck
  | _, _ => .stuck
theorem draw_lt (t : Town) (n : Int) (h : 0 < n) : 0 ≤ (drawF t n).1 ∧ (drawF t n).1 < n := by
  unfold drawF
  have k : ∀ x : Int, 0 ≤ x % n ∧ x % n < n := fun x => ⟨Int.emod_nonneg x (by omega), Int.emod_lt_of_pos x h⟩
  split
  · exact k _
  · split
    · exact k _
    · split
      · exact k _
      · exact k _
theorem pget_list {X : Cx} : PGet X (fun o i H Q => ∃ p xs k j v, o = .ref p ∧ i = .int k ∧ H p = some (.lst xs) ∧ k = ((j : Nat) : Int) ∧ xs[j]? = some v ∧ Q v H) := by
  intro pins s σ H o i ov iv Q I ro ri h
  obtain ⟨p, xs, k, j, v, rfl, rfl, hp, rfl, hv, q⟩ := h
  cases ro
  obtain ⟨t, rfl⟩ := ri
  obtain ⟨its, r, pl, hz⟩ := I.list (SqL.of hp)
  obtain ⟨u, hu, ru⟩ := r.get hv
  have hj : j < xs.length := (List.getElem?_eq_some_iff.mp hv).1
  have hs : sizeLine = 16777216 := sizeLine_eq
  exact wpAny_getItem_list pl.isList (Int.natCast_nonneg _) (by omega) (by simpa using hu) ⟨v, H, I, ru, q⟩
end Pm

set_option Elab.async false
set_option linter.all false
set_option maxRecDepth 100000
/-! The law's own def; small ends. -/
namespace Pm
open PySem L2 RZ

theorem DSs.two {T : Type} {X : Cx} {C : Ct T} {W : WX} {st : List Stmt} {t : TS} {m : M T Out} (h : DSs X C W st t m) : ∃ t, PSs X st t ∧ Sb C W t m := ⟨t, h.pe, h.sv⟩
theorem DSs.twoT {T : Type} {X : Cx} {Cs : Ct T → Prop} {W : WX} {st : List Stmt} {t : TS} {m : M T Out} (hne : ∃ C, Cs C) (h : ∀ C, Cs C → DSs X C W st t m) : ∃ t, PSs X st t ∧ ∀ C, Cs C → Sb C W t m := by
  obtain ⟨C, hC⟩ := hne
  exact ⟨t, (h C hC).pe, fun C hC => (h C hC).sv⟩
theorem cts_any (K : PySem.W.Frag) (cls : Nat → Addr) : ∃ C, CTs K cls C := ⟨_, 0, 0, rfl⟩
theorem Cur.town {X : Cx} {K : PySem.W.Frag} {cls : Nat → Addr} {W : WX} {k : Nat} {C : Ct Town} (hC : CTs K cls C) (tk : Takes X W) (hr : Room k X.A) (hK : X.K = K) (hc : X.calm = true) (nd : X.N.Nodup) : Cur X C W k cls K := by
  obtain ⟨a, p, rfl⟩ := hC
  exact Cur.mk' tk hr hK rfl hc nd rfl
theorem Cur.pure {X : Cx} {K : PySem.W.Frag} {cls : Nat → Addr} {W : WX} {k : Nat} (tk : Takes X W) (hr : Room k X.A) (hK : X.K = K) (hc : X.calm = true) (nd : X.N.Nodup) : Cur X (CU K cls) W k cls K := Cur.mk' tk hr hK rfl hc nd rfl
def opAddI : D → D → Option D
  | .int i, .int j => some (.int (i + j))
  | _, _ => none
theorem rv_ip_add {T : Type} {C : Ct T} : Rv C (ipI fun i j => i + j) opAddI := by
  intro F0 H0 L s σ F H x y a b Q g rx ry h
  cases rx with
  | int i =>
    cases ry with
    | int j => exact ⟨i, j, rfl, rfl, rv_end g h (.int _)⟩
    | _ => exact h.elim
  | _ => exact h.elim
/-- law's promise: a list of at most 63 ints is handed in, True comes out -/
def spLawT (K : PySem.W.Frag) (T : List (Addr × Str)) : Sp := fun vs H Q E => ∃ (a : Addr) (ns : List Int), vs = [.ref a] ∧ SqL K H a (ns.map V.int) ∧ ns.length ≤ 63 ∧ (∀ q ∈ T, H q.1 = some (.tbl #[])) ∧ ∀ H', Q (.bl true) H'
abbrev spLaw (K : PySem.W.Frag) : Sp := spLawT K []
section
variable {P : Program} {w : World} {K : PySem.W.Frag} {mg : Str → Option Value} {base : Heap} {cls : Nat → Addr}
theorem okLaw {st : Stmt} {f : Addr} {fd : FuncData} {N ps : List Str} {k : Nat} {m : M Town Out} (F : Fun K "law" "law" st f fd) (S : FnScope N ps (defScope st)) (hps : ps.length = 1) (hN : 2 ≤ N.length)
    (hbody : ∀ (cdv : Value) (A : Around) (outer : List Env) (s : Shared) (H : Hp) (E : XK), Room k (A.deeper (PyProof.Rows.envOfC "law" (defScope st) s.heap.objs.size f cdv)) →
      ∃ t, PSs (cxOf (L2.CX P w) P w K mg base N "law" (defScope st) f cdv A outer s H E) (defBody st) (tSeq (tAsg (tLst (tCons (tC (.int 0)) (tCons (tC (.int 0)) tNil))) (gName 1)) t) ∧ ∀ C, CTs K cls C → Sb C (WofE E) t m)
    (hm : ∀ ns : List Int, ns.length ≤ 63 → ∃ s', m ⟨.pt 0 :: .pt 1 :: List.replicate (N.length - 2) .un, ⟨ns, 0, 0⟩⟩ = .ok (.ret (.bool true)) s') :
    FnOk P w K mg base (L2.CX P w) (k + 1) f fd ps (spLawT K (tabs cls)) := by
  refine F.okX S (fun vs H Q E h => ?_) (fun cdv A outer s H vs Q E hr h => ?_)
  · obtain ⟨a, ns, rfl, _⟩ := h
    exact hps.symm
  · obtain ⟨a, ns, rfl, hS, hlen, hTb, hq⟩ := h
    obtain ⟨t, ht, sb⟩ := hbody cdv A outer s H E hr
    refine ⟨_, ht, ?_⟩
    refine ⟨by show 2 ≤ sizeLine; decide, fun p hp => ?_⟩
    obtain ⟨s', hs'⟩ := hm ns hlen
    -- the script's object alone is frozen
    have hF : ∃ F1 : Hp, Sub F1 (upd H p (.lst [.int 0, .int 0])) ∧ SqL K F1 a (ns.map V.int) ∧ F1 p = none ∧ ∀ q ∈ tabs cls, F1 q.1 = none := by
      rcases hS with h | h
      · have hap : a ≠ p := by
          rcases h with h | ⟨o, h⟩ <;> exact ne_of_none h hp
        refine ⟨fun b => if b = a then H a else none, fun b o e => ?_, ?_, ?_⟩
        · by_cases hb : b = a
          · subst hb
            have e' : H b = some o := by simpa using e
            rw [upd_ne hap]
            exact .inl e'
          · have e' : (none : Option HO) = some o := by simpa [hb] using e
            cases e'
        · rcases h with h | ⟨o, h⟩
          · exact .inl (.inl (by simpa using h))
          · exact .inl (.inr ⟨o, by simpa using h⟩)
        · refine ⟨by simp [Ne.symm hap], fun q hq => ?_⟩
          have h1 := hTb q hq
          have : q.1 ≠ a := fun e => by
            rw [e] at h1
            rcases h with h | ⟨o, h⟩ <;> rw [h1] at h <;> cases h
          simp [this]
      · exact ⟨fun _ => none, fun b o e => (nomatch e), .inr h, rfl, fun _ _ => rfl⟩
    obtain ⟨F1, u, hSF, hFp, hFT⟩ := hF
    have hTp : ∀ q ∈ tabs cls, (upd H p (.lst [.int 0, .int 0])) q.1 = some (.tbl #[]) := fun q hq => by
      rw [upd_ne (ne_of_none (hTb q hq) hp)]
      exact hTb q hq
    have hst : L2.start N [V.ref a] = some (V.ref a) :: none :: List.replicate (N.length - 2) none := by
      unfold L2.start
      obtain ⟨n, hn⟩ : ∃ n, N.length = n + 2 := ⟨N.length - 2, by omega⟩
      rw [hn]
      rfl
    have gd : Good (CT K cls a p) F1 (upd H p (.lst [.int 0, .int 0])) (fun _ => none) ⟨.pt 0 :: .pt 1 :: List.replicate (N.length - 2) .un, ⟨ns, 0, 0⟩⟩ ((L2.start N [V.ref a]).set 1 (some (.ref p))) F1 (upd H p (.lst [.int 0, .int 0])) :=
      { len := by rw [hst]; simp
        sub := u
        ext0 := Same.refl _
        base := fun a o e _ => e
        newF := fun a o e => .inl e
        fp0 := fun b z => by
          rcases List.mem_cons.mp z with e | z
          · rw [e, upd_same]
            exact fun z => nomatch z
          · obtain ⟨q, hq, e⟩ := List.mem_map.mp z
            rw [← e, hTp q hq]
            exact fun z => nomatch z
        fpF := fun b z => by
          rcases List.mem_cons.mp z with e | z
          · rw [e]; exact hFp
          · obtain ⟨q, hq, e⟩ := List.mem_map.mp z
            rw [← e]; exact hFT q hq
        fpH := fun b z => by
          rcases List.mem_cons.mp z with e | z
          · rw [e, upd_same]
            exact fun z => nomatch z
          · obtain ⟨q, hq, e⟩ := List.mem_map.mp z
            rw [← e, hTp q hq]
            exact fun z => nomatch z
        lH := fun _ _ z => nomatch z
        slots := fun i x hx => by
          rw [hst]
          match i, hx with
          | 0, hx => cases hx; exact rfl
          | 1, hx => cases hx; exact rfl
          | i + 2, hx =>
            have hx' : (List.replicate (N.length - 2) Slot.un)[i]? = some x := hx
            rw [List.getElem?_replicate] at hx'
            split at hx'
            · cases hx'; trivial
            · cases hx'
        sep := fun i j x y p' _ hx _ ox => by
          match i, hx with
          | 0, hx => cases hx; cases ox
          | 1, hx => cases hx; cases ox
          | i + 2, hx =>
            have hx' : (List.replicate (N.length - 2) Slot.un)[i]? = some x := hx
            rw [List.getElem?_replicate] at hx'
            split at hx'
            · cases hx'; cases ox
            · cases hx'
        j := ⟨⟨hSF, upd_same, Int.le_refl 0, hlen⟩, fun q hq => ⟨#[], hTp q hq, True.intro, fun pos cv hc => by simp [codeAmong] at hc⟩⟩ }
    refine sb _ ⟨a, p, rfl⟩ _ _ _ _ _ _ _ _ gd ?_
    rw [hs']
    intro v σ' F' H' g' e' r'
    cases r'
    exact hq H'
end
end Pm

set_option Elab.async false
set_option linter.all false
set_option maxRecDepth 100000
/-! The draw's own reading. -/
namespace Pm
open PySem L2 RZ

abbrev rGt0 : R2 := rI0 fun i j => .bl (decide (j < i))
abbrev rGe0 : R2 := rI0 fun i j => .bl (decide (j ≤ i))
abbrev rLt0 : R2 := rI0 fun i j => .bl (decide (i < j))
abbrev rMod0 : R2 := rI (fun _ j => 0 < j) fun i j => .int (i % j)
abbrev rDiv0 : R2 := rI CDivW fun i j => .int (i / j)
abbrev rMul0 : R2 := rI CMul fun i j => .int (i * j)
abbrev rMulX : R2 := rI CMulW fun i j => .int (i * j)
abbrev rAdd0 : R2 := rI0 fun i j => .int (i + j)
abbrev rPow0 : R2 := rI CPow fun i j => .int (i ^ j.toNat)
abbrev rPget : V → V → Hp → VK → Prop := fun o i H Q => ∃ p xs k j v, o = .ref p ∧ i = .int k ∧ H p = some (.lst xs) ∧ k = ((j : Nat) : Int) ∧ xs[j]? = some v ∧ Q v H
abbrev tI (i : Int) : TE := tC (.int i)
abbrev tTown (K : PySem.W.Frag) (i : Int) : TE := tOp (rIxL K) (tVar 1) (tI i)
abbrev tLenS (K : PySem.W.Frag) : TE := tCB (rLenA K) (tCons (tVar 0) tNil)
abbrev tDraw (K : PySem.W.Frag) : TS :=
  tSeq (tIfS (tTest (tOp rGt0 (tTown K 1) (tI 0)))
    (tSeq (tAsg (tOp rMod0 (tTown K 1) (tVar 2)) (gName 3)) (tSeq (tAsg (tOp rDiv0 (tTown K 1) (tVar 2)) (gSub (tVar 1) (tI 1) rSetL)) (tRet (tVar 3)))) tNext)
  (tSeq (tAsg (tTown K 0) (gName 4))
  (tSeq (tAugS (tVar 1) (tI 0) (tI 1) rPget (ipI fun i j => i + j) rSetL)
  (tSeq (tIfS (tTest (tOp (rEqD K) (tVar 0) (tLst tNil))) (tRet (tOp rMod0 (tVar 4) (tVar 2))) tNext)
  (tSeq (tIfS (tAnd (tTest (tOp rLt0 (tVar 4) (tLenS K))) (tTest (tOp rGe0 (tOp (rIxL K) (tVar 0) (tVar 4)) (tOp rPow0 (tI 10) (tI 18)))))
    (tSeq (tAsg (tOp rMod0 (tOp rDiv0 (tOp (rIxL K) (tVar 0) (tVar 4)) (tVar 2)) (tOp rMulX (tOp rPow0 (tI 10) (tI 60)) (tOp rPow0 (tI 10) (tI 60)))) (gSub (tVar 1) (tI 1) rSetL))
      (tRet (tOp rMod0 (tOp (rIxL K) (tVar 0) (tVar 4)) (tVar 2)))) tNext)
  (tSeq (tAsg (tOp rMod0 (tOp rAdd0 (tOp rAdd0 (tOp rMul0 (tOp (rIxL K) (tVar 0) (tOp rMod0 (tVar 4) (tLenS K))) (tI 1103515245)) (tOp rMul0 (tI 7919) (tVar 4))) (tI 12345)) (tI 2147483647)) (gName 5))
    (tRet (tOp rMod0 (tOp rMod0 (tOp rMod0 (tOp rPow0 (tVar 5) (tI 5)) (tI 2147483647)) (tI 999983)) (tVar 2))))))))
theorem seq_ints {K : PySem.W.Frag} {H : Hp} {a : Addr} {ns : List Int} (h : SqL K H a (ns.map V.int)) : Dp K H (.ref a) (.list (ns.map .int)) := by
  refine .lst h ?_
  clear h
  induction ns with
  | nil => exact .nil
  | cons x r ih => exact .cons (.int x) ih
theorem shaped_ints : ∀ (ns : List Int), SeqAt.shaped (.list (ns.map .int)) = true := by
  intro ns
  have h1 : PyData.canLayAll0 (ns.map PyData.int) = true := by
    induction ns with
    | nil => rfl
    | cons x r ih =>
      rw [List.map_cons]
      unfold PyData.canLayAll0
      rw [ih]
      rfl
  have h2 : PyData.depthAll (ns.map PyData.int) = 0 := by
    clear h1
    induction ns with
    | nil => rfl
    | cons x r ih =>
      rw [List.map_cons]
      unfold PyData.depthAll
      rw [ih]
      rfl
  unfold SeqAt.shaped PyData.canLay0 PyData.depth
  rw [h1, h2]
  rfl
theorem at_ints {ns : List Int} {i : Int} (h0 : 0 ≤ i) (h1 : i < ns.length) : atI (ns.map V.int) i = some (.int (ns.getD i.toNat 0)) := by
  unfold atI ixN
  rw [List.length_map, if_pos h0, if_pos h1]
  show (ns.map V.int)[i.toNat]? = _
  rw [List.getElem?_map, List.getD_eq_getElem?_getD]
  have : i.toNat < ns.length := by omega
  rw [List.getElem?_eq_getElem this]
  rfl
theorem gDraw_inv (xs : List Slot) (t : Town) : (∃ n, xs = [.pt 0, .pt 1, .fz (.int n)] ∧ 0 < n ∧ n < 1000000 ∧ gDraw xs t = .ok (.int (drawF t n).1) (drawF t n).2) ∨ gDraw xs t = .stuck := by
  unfold gDraw
  split
  · rename_i n
    by_cases hn : 0 < n ∧ n < 1000000
    · rw [if_pos hn]; exact .inl ⟨n, rfl, hn.1, hn.2, rfl⟩
    · rw [if_neg hn]; exact .inr rfl
  · exact .inr rfl
theorem draw_reads {K : PySem.W.Frag} {cls : Nat → Addr} {vs : List V} {H : Hp} {Q : VK} {E : XK} (h : spX (CTs K cls) gDraw vs H Q E) :
    tDraw K { nx := fun _ H' => Q .non H', rt := Q } (L2.start ["_law_script", "_law_town", "_law_many", "_law_one", "_law_at", "_law_mixed"] vs) H := by
  obtain ⟨C, ⟨a, p, rfl⟩, F, xs, t, u, ⟨⟨j1, j2, j3, j4⟩, jT⟩, fp, r, q⟩ := h
  rcases gDraw_inv xs t with ⟨n, rfl, hn0, hn1, e⟩ | e
  · rw [e] at q
    · match vs, r with
      | [v0, v1, v2], ⟨r0, r1, r2, _⟩ =>
        cases r0
        cases r1
        cases r2
        have e0 : (CT K cls a p).ptr 0 = a := rfl
        have e1 : (CT K cls a p).ptr 1 = p := rfl
        rw [e0, e1]
        have fpn : F p = none := (fp p List.mem_cons_self).1
        have hSx : ∀ H', Sub F H' → SqL K H' a (t.ns.map V.int) := fun H' u' => by
          rcases j1 with (z | ⟨o', z⟩) | z
          · exact SqL.of (u'.lst z)
          · rcases u' a _ z with y | ⟨⟨ks, y⟩, _⟩
            · exact .inl (.inr ⟨o', y⟩)
            · cases y
          · exact .inr z
        have subP : ∀ {H' : Hp} {o : HO}, Sub F H' → Sub F (upd H' p o) := fun {H' o} u' b o' e => by
          rw [upd_ne (ne_of_none e fpn)]
          exact u' b o' e
        -- behind the draw: the town is t'
        have fin : ∀ (t' : Town) (i : Int) (H' : Hp), drawF t n = (i, t') → t'.ns = t.ns → 0 ≤ t'.c → Sub F H' → H' p = some (.lst [.int t'.c, .int t'.r]) → (∀ b o, H b = some o → b ≠ p → H' b = some o) → Q (.int i) H' := by
          intro t' i H' ed en ec u' hp' st'
          rw [ed] at q
          have hT : ∀ q ∈ tabs cls, H' q.1 = H q.1 := fun q hq => by
            obtain ⟨ps, h1, _⟩ := jT q hq
            rw [h1]
            exact st' _ _ h1 fun y => by rw [y, j2] at h1; cases h1
          have j' : (CT K cls a p).J t' F H' := ⟨⟨by rw [en]; exact j1, hp', ec, by rw [en]; exact j4⟩, jT.stab (Same.refl F) hT⟩
          refine q _ F _ ⟨Same.refl F, u', fun b o e => .inl e, fun b o e z => st' b o e (fun y => z (by rw [y]; exact List.mem_cons_self)), fun b z => (fp b z).1, fun b z => ?_, j'⟩ (.int i)
          rcases List.mem_cons.mp z with e | z
          · rw [e, hp']
            exact fun z => nomatch z
          · obtain ⟨q, hq, e⟩ := List.mem_map.mp z
            have h2 := (fp b (List.mem_cons_of_mem _ z)).2
            rw [← e, hT q hq]
            rw [← e] at h2
            exact h2
        have st : L2.start ["_law_script", "_law_town", "_law_many", "_law_one", "_law_at", "_law_mixed"] [V.ref a, V.ref p, V.int n] = [some (V.ref a), some (V.ref p), some (V.int n), none, none, none] := rfl
        rw [st]
        have dn : ∀ x : Int, CDivW x n := fun x => ⟨hn0, by
          have h2 : n.natAbs < 2 ^ 64 := by omega
          have h3 : n.natAbs.log2 < 64 := (Nat.log2_lt (by omega)).mpr h2
          omega⟩
        refine ⟨.ref p, rfl, p, _, 1, .int t.r, rfl, rfl, SqL.of j2, rfl, t.r, 0, rfl, rfl, _, rfl, ?_⟩
        by_cases hr : 0 < t.r
        · rw [decide_eq_true hr]
          refine iteT ?_
          refine ⟨.ref p, rfl, p, _, 1, .int t.r, rfl, rfl, SqL.of j2, rfl, .int n, rfl, t.r, n, rfl, rfl, hn0, ?_⟩
          refine ⟨.ref p, rfl, p, _, 1, .int t.r, rfl, rfl, SqL.of j2, rfl, .int n, rfl, t.r, n, rfl, rfl, dn _, ?_⟩
          refine ⟨.ref p, rfl, p, _, 1, 1, rfl, rfl, j2, rfl, ?_⟩
          refine ⟨_, rfl, ?_⟩
          refine fin { t with r := t.r / n } _ _ ?_ rfl j3 (subP u) upd_same fun b o e z => by rw [upd_ne z]; exact e
          unfold drawF
          rw [if_pos hr]
        · rw [decide_eq_false hr]
          refine iteF ?_
          refine ⟨.ref p, rfl, p, _, 0, .int t.c, rfl, rfl, SqL.of j2, rfl, ?_⟩
          refine ⟨.ref p, rfl, p, _, 0, 0, .int t.c, rfl, rfl, j2, rfl, rfl, t.c, 1, rfl, rfl, p, _, 0, 0, rfl, rfl, j2, rfl, ?_⟩
          refine ⟨.ref a, rfl, by show 0 ≤ sizeLine; exact Nat.zero_le _, fun l hl => ?_⟩
          have u1 : Sub F (upd H p (.lst [.int (t.c + 1), .int t.r])) := subP u
          have u2 : Sub F (upd (upd H p (.lst [.int (t.c + 1), .int t.r])) l (.lst [])) := u1.updN hl
          have lp : p ≠ l := by
            rintro rfl
            rw [upd_same] at hl; cases hl
          have hp2 : (upd (upd H p (.lst [.int (t.c + 1), .int t.r])) l (.lst [])) p = some (.lst [.int (t.c + 1), .int t.r]) := by rw [upd_ne lp, upd_same]
          have st2 : ∀ b o, H b = some o → b ≠ p → (upd (upd H p (.lst [.int (t.c + 1), .int t.r])) l (.lst [])) b = some o := fun b o e z => by
            have bl : b ≠ l := by
              rintro rfl
              rw [upd_ne z] at hl
              rw [hl] at e; cases e
            rw [upd_ne bl, upd_ne z]
            exact e
          have e2 : upd (upd H p (.lst [.int (t.c + 1), .int t.r])) l (.lst []) = upd (upd H p (.lst ([V.int t.c, V.int t.r].set 0 (V.int (t.c + 1))))) l (.lst []) := rfl
          generalize upd (upd H p (.lst [.int (t.c + 1), .int t.r])) l (.lst []) = H2 at u2 hp2 st2 e2
          have hl2 : H2 l = some (.lst []) := by rw [e2, upd_same]
          have S2 := hSx H2 u2
          show rEqD K (.ref a) (.ref l) (upd (upd H p (.lst ([V.int t.c, V.int t.r].set 0 (V.int (t.c + 1))))) l (.lst [])) _
          rw [← e2]
          refine ⟨_, .list [], seq_ints S2, .lst (SqL.of hl2) .nil, shaped_ints _, rfl, _, rfl, ?_⟩
          have lenS : LenV K (.ref a) H2 t.ns.length := .inl ⟨_, S2, by rw [List.length_map]⟩
          by_cases hns : t.ns = []
          · rw [hns]
            refine iteT ?_
            refine ⟨.int t.c, rfl, .int n, rfl, t.c, n, rfl, rfl, hn0, ?_⟩
            refine fin { t with c := t.c + 1 } _ _ ?_ rfl (by show 0 ≤ t.c + 1; omega) u2 hp2 st2
            unfold drawF
            rw [if_neg hr, if_pos hns]
          · have ev : PyData.eqv (.list (t.ns.map .int)) (.list []) = false := by
              cases q9 : t.ns with
              | nil => exact absurd q9 hns
              | cons x r => rfl
            rw [ev]
            refine iteF ?_
            have hlen : 0 < t.ns.length := List.length_pos_iff.mpr hns
            refine ⟨.int t.c, rfl, .ref a, rfl, .inl ⟨.ref a, _, rfl, lenS, t.c, _, rfl, rfl, _, rfl, ?_⟩⟩
            have c1018 : CPow 10 18 := ⟨by decide, by decide, by decide⟩
            have c1060 : CPow 10 60 := ⟨by decide, by decide, by decide⟩
            -- the mixed way
            have mixed : ¬ (t.c < t.ns.length ∧ 10 ^ 18 ≤ t.ns.getD t.c.toNat 0) → tSeq (tAsg (tOp rMod0 (tOp rAdd0 (tOp rAdd0 (tOp rMul0 (tOp (rIxL K) (tVar 0) (tOp rMod0 (tVar 4) (tLenS K))) (tI 1103515245)) (tOp rMul0 (tI 7919) (tVar 4))) (tI 12345)) (tI 2147483647)) (gName 5))
                (tRet (tOp rMod0 (tOp rMod0 (tOp rMod0 (tOp rPow0 (tVar 5) (tI 5)) (tI 2147483647)) (tI 999983)) (tVar 2))) { nx := fun _ H' => Q .non H', rt := Q } [some (V.ref a), some (V.ref p), some (V.int n), none, some (V.int t.c), none] H2 := by
              intro hnot
              have m0 : 0 ≤ t.c % (t.ns.length : Int) := Int.emod_nonneg _ (by omega)
              have m1 : t.c % (t.ns.length : Int) < t.ns.length := Int.emod_lt_of_pos _ (by omega)
              refine ⟨.ref a, rfl, .int t.c, rfl, .ref a, rfl, .inl ⟨.ref a, _, rfl, lenS, t.c, _, rfl, rfl, by omega, a, _, _, _, rfl, rfl, S2, at_ints m0 m1, ?_⟩⟩
              refine ⟨_, _, rfl, rfl, .inr ⟨by decide, by decide⟩, .int t.c, rfl, _, _, rfl, rfl, .inl ⟨by decide, by decide⟩, _, _, rfl, rfl, _, _, rfl, rfl, _, _, rfl, rfl, (by show (0 : Int) < 2147483647; decide), ?_⟩
              have k0 : 0 ≤ (t.ns.getD (t.c % (t.ns.length : Int)).toNat 0 * 1103515245 + 7919 * t.c + 12345) % 2147483647 := Int.emod_nonneg _ (by decide)
              have k1 : (t.ns.getD (t.c % (t.ns.length : Int)).toNat 0 * 1103515245 + 7919 * t.c + 12345) % 2147483647 < 2147483647 := Int.emod_lt_of_pos _ (by decide)
              have cp : CPow ((t.ns.getD (t.c % (t.ns.length : Int)).toNat 0 * 1103515245 + 7919 * t.c + 12345) % 2147483647) 5 := ⟨by decide, by decide, by omega⟩
              refine ⟨_, rfl, _, 5, rfl, rfl, cp, _, _, rfl, rfl, (by show (0 : Int) < 2147483647; decide), _, _, rfl, rfl, (by show (0 : Int) < 999983; decide), .int n, rfl, _, _, rfl, rfl, hn0, ?_⟩
              refine fin { t with c := t.c + 1 } _ _ ?_ rfl (by show 0 ≤ t.c + 1; omega) u2 hp2 st2
              unfold drawF
              rw [if_neg hr, if_neg hns, if_neg hnot]
              rfl
            by_cases h1 : t.c < t.ns.length
            · rw [decide_eq_true h1]
              refine iteT ?_
              refine ⟨.ref a, rfl, .int t.c, rfl, a, _, _, _, rfl, rfl, S2, at_ints j3 h1, 10, 18, rfl, rfl, c1018, _, _, rfl, rfl, _, rfl, ?_⟩
              by_cases h2 : (10 ^ 18 : Int) ≤ t.ns.getD t.c.toNat 0
              · have h2' : (10 : Int) ^ (18 : Int).toNat ≤ t.ns.getD t.c.toNat 0 := h2
                rw [decide_eq_true h2']
                refine iteT ?_
                refine ⟨.ref a, rfl, .int t.c, rfl, a, _, _, _, rfl, rfl, S2, at_ints j3 h1, .int n, rfl, _, _, rfl, rfl, dn _, 10, 60, rfl, rfl, c1060, 10, 60, rfl, rfl, c1060, _, _, rfl, rfl, ?_, _, _, rfl, rfl, (by show (0 : Int) < 10 ^ (60 : Int).toNat * 10 ^ (60 : Int).toNat; decide), ?_⟩
                · show ((10 : Int) ^ (60 : Int).toNat).natAbs.log2 + ((10 : Int) ^ (60 : Int).toNat).natAbs.log2 < 1000000
                  decide
                refine ⟨.ref p, rfl, p, _, 1, 1, rfl, rfl, hp2, rfl, ?_⟩
                have u3 : Sub F (upd H2 p (.lst [.int (t.c + 1), .int (t.ns.getD t.c.toNat 0 / n % (10 ^ 60 * 10 ^ 60))])) := subP u2
                refine ⟨.ref a, rfl, .int t.c, rfl, a, _, _, _, rfl, rfl, hSx _ u3, at_ints j3 h1, .int n, rfl, _, _, rfl, rfl, hn0, ?_⟩
                refine fin { t with c := t.c + 1, r := t.ns.getD t.c.toNat 0 / n % (10 ^ 60 * 10 ^ 60) } _ _ ?_ rfl (by show 0 ≤ t.c + 1; omega) u3 upd_same fun b o e z => by rw [upd_ne z]; exact st2 b o e z
                unfold drawF
                rw [if_neg hr, if_neg hns, if_pos ⟨h1, h2⟩]
              · have h2' : ¬ ((10 : Int) ^ (18 : Int).toNat ≤ t.ns.getD t.c.toNat 0) := h2
                rw [decide_eq_false h2']
                exact iteF (mixed fun z => h2 z.2)
            · rw [decide_eq_false h1]
              exact iteF (iteF (mixed fun z => h1 z.1))
      | [], r => exact r.elim
      | [_], r => exact r.2.elim
      | [_, _], r => exact r.2.2.elim
      | _ :: _ :: _ :: _ :: _, r => exact r.2.2.2.elim
  · rw [e] at q; exact q.elim
end Pm

set_option Elab.async false
set_option linter.all false
set_option maxRecDepth 100000
/-! Defs of the module by their standing. -/
namespace Pm
open PySem L2 RZ

/-- a def of the module as it stands -/
def Std (K : PySem.W.Frag) (mg : Str → Option Value) (x : Str) (st : Stmt) (ps : List Str) : Prop := ∃ (f : Addr) (fd : FuncData), Fun K x x st f fd ∧ mg x = some (.ref f) ∧ Binds K fd ps []
def natOf {T : Type} (s : S T) (i : Nat) : Nat := match s.env[i]? with
  | some (.fz (.int n)) => n.natAbs + 1
  | _ => 0
section
variable {P : Program} {w : World} {K : PySem.W.Frag} {mg : Str → Option Value} {base : Heap} {cls : Nat → Addr}
theorem okD {x : Str} {st : Stmt} {N ps : List Str} {k : Nat} {m : M Unit Out} {g : List D → Rp} (h : Std K mg x st ps) (S : FnScope N ps (defScope st)) (hg : g = fnP ps.length N.length m)
    (hbody : ∀ (f : Addr) (cdv : Value) (A : Around) (outer : List Env) (s : Shared) (H : Hp) (E : XK), Room k (A.deeper (PyProof.Rows.envOfC x (defScope st) s.heap.objs.size f cdv)) →
      ∃ t, PSs (cxOf (L2.CX P w) P w K mg base N x (defScope st) f cdv A outer s H E) (defBody st) t ∧ Sb (CU K cls) (WofE E) t m) : DefP P w K mg base cls x (k + 1) ps g := by
  obtain ⟨f, fd, F, hm, hb⟩ := h
  subst hg
  exact ⟨f, fd, okP F S (hbody f), hm, F.kp, hb⟩
theorem okDT {x : Str} {st : Stmt} {N ps : List Str} {k : Nat} {m : M Town Out} {g : List Slot → Town → Rt Town} (h : Std K mg x st ps) (S : FnScope N ps (defScope st)) (hg : g = fnT ps.length N.length m)
    (hbody : ∀ (f : Addr) (cdv : Value) (A : Around) (outer : List Env) (s : Shared) (H : Hp) (E : XK), Room k (A.deeper (PyProof.Rows.envOfC x (defScope st) s.heap.objs.size f cdv)) →
      ∃ t, PSs (cxOf (L2.CX P w) P w K mg base N x (defScope st) f cdv A outer s H E) (defBody st) t ∧ ∀ C, CTs K cls C → Sb C (WofE E) t m) : DefX P w K mg base x (k + 1) ps (spX (CTs K cls) g) := by
  obtain ⟨f, fd, F, hm, hb⟩ := h
  subst hg
  exact ⟨f, fd, okT F S (hbody f), hm, F.kp, hb⟩
theorem okDraw {x : Str} {st : Stmt} {ps : List Str} (h : Std K mg x st ps) (S : FnScope ["_law_script", "_law_town", "_law_many", "_law_one", "_law_at", "_law_mixed"] ps (defScope st)) (hps : ps.length = 3)
    (hbody : ∀ (f : Addr) (cdv : Value) (A : Around) (outer : List Env) (s : Shared) (H : Hp) (E : XK), Room 0 (A.deeper (PyProof.Rows.envOfC x (defScope st) s.heap.objs.size f cdv)) →
      PSs (cxOf (L2.CX P w) P w K mg base ["_law_script", "_law_town", "_law_many", "_law_one", "_law_at", "_law_mixed"] x (defScope st) f cdv A outer s H E) (defBody st) (tDraw K)) : DefX P w K mg base x 1 ps (spX (CTs K cls) gDraw) := by
  obtain ⟨f, fd, F, hm, hb⟩ := h
  refine ⟨f, fd, F.okX S (fun vs H Q E h => ?_) (fun cdv A outer s H vs Q E hr h => ⟨_, hbody f cdv A outer s H E hr, draw_reads h⟩), hm, F.kp, hb⟩
  obtain ⟨C, hC, F1, xs, t, u, j, fp, r, q⟩ := h
  rcases gDraw_inv xs t with ⟨n, rfl, _⟩ | e
  · rw [hps]; exact r.length
  · rw [e] at q; exact q.elim
end
/-- len of the script -/
theorem pe_lenS {X : Cx} {p pos pos2 : Pos} (h1 : X.mg "len" = none) (h2 : X.N[0]? = some ("_law_script" : Str)) (h3 : Vis X.env.scope "_law_script") (h4 : Gl X "len") (h5 : starEach [.Name "_law_script" pos2] X.env = (false, eval (.Name "_law_script" pos2) X.env) :: starEach [] X.env) :
    PE X (.Call (.Name "len" p) [.Name "_law_script" pos2] [] pos) (tLenS X.K) := pe_callB cr_len h4 h1 PySem.boot_len (pa_cons (pe_var h2 h3) pa_nil h5) (by decide) (by decide) h5 (by rfl)
end Pm

set_option Elab.async false
set_option linter.all false
set_option maxRecDepth 100000
/-! Dicts: displays, get, d[k] = v. -/
namespace Pm
open PySem L2 RZ

def mPairs {T : Type} : List (M T D × M T D) → M T (List (D × D))
  | [] => mRet []
  | (fk, fv) :: r => mBind fk fun k => mBind fv fun v => mBind (mPairs r) fun ps => mRet ((k, v) :: ps)
def mergeD (acc : List (D × D)) : List (D × D) → Option (List (D × D))
  | [] => some acc
  | (k, v) :: r => match keyOf k with
    | some k' => mergeD (putD acc k' v) r
    | none => none
def mDisp {T : Type} (fs : List (M T D × M T D)) : M T Slot := mBind (mPairs fs) fun ps => mLift (if ps.length ≤ 15 then (mergeD [] ps).map .od else none)
inductive RepPs (K : PySem.W.Frag) (F : Hp) : List (V × V) → List (D × D) → Prop
  | nil : RepPs K F [] []
  | cons {x y : V} {a b : D} {vs : List (V × V)} {ds : List (D × D)} : Rep K F x a → Rep K F y b → RepPs K F vs ds → RepPs K F ((x, y) :: vs) ((a, b) :: ds)
theorem merge_rep {K : PySem.W.Frag} {F : Hp} : ∀ {vs : List (V × V)} {ps : List (D × D)}, RepPs K F vs ps → ∀ {ks : List (Key × V)} {acc r : List (D × D)}, RepKV K F ks acc → mergeD acc ps = some r →
    ∃ kvs : List (Key × V), vs = kvs.map (fun kv => (kV kv.1, kv.2)) ∧ kvs.length = ps.length ∧ RepKV K F (mergeK ks kvs) r
  | _, _, .nil, ks, acc, r, h, e => by cases e; exact ⟨[], rfl, rfl, h⟩
  | _, _, .cons (a := a) (b := b) (ds := ds) hx hy hr, ks, acc, r, h, e => by
    unfold mergeD at e
    cases q : keyOf a with
    | none => rw [q] at e; cases e
    | some k =>
      rw [q] at e
      obtain ⟨ex, _⟩ := keyOf_rep hx q
      obtain ⟨kvs, e1, e2, e3⟩ := merge_rep hr (h.put (k := k) hy) e
      refine ⟨(k, _) :: kvs, ?_, congrArg Nat.succ e2, e3⟩
      rw [e1, ex]; rfl
section
variable {T : Type} {C : Ct T} {W : WX} {F0 H0 F F1 H : Hp} {L : Nat → Option Addr} {s : S T} {σ : L2.St} {α β : Type}
def Sps (C : Ct T) (W : WX) (trs : List (TE × TE)) (fs : List (M T D × M T D)) : Prop := ∀ F0 H0 L s σ F H (Q : List (V × V) → Hp → Prop), Good C F0 H0 L s σ F H → Po C W F0 H0 L F σ (fun ps _ F' H' => ∀ vs, RepPs C.K F' vs ps → Q vs H') (mPairs fs s) → tPairs trs σ H Q
theorem RepPs.mono {K : PySem.W.Frag} {F F' : Hp} (e : Same F F') {vs : List (V × V)} {ps : List (D × D)} (h : RepPs K F vs ps) : RepPs K F' vs ps := by
  induction h with
  | nil => exact .nil
  | cons hx hy _ ih => exact .cons (hx.mono e) (hy.mono e) ih
theorem sps_nil : Sps C W [] [] := fun F0 H0 L s σ F H Q g h => po_ret h g _ .nil
theorem sps_cons {tk tv : TE} {fk fv : M T D} {trs : List (TE × TE)} {fs : List (M T D × M T D)} (hk : Sv C W tk fk) (hv : Sv C W tv fv) (hr : Sps C W trs fs) : Sps C W ((tk, tv) :: trs) ((fk, fv) :: fs) := by
  intro F0 H0 L s σ F H Q g h
  refine hk _ _ _ _ _ _ _ _ g (po_imp (po_bind h) fun a s1 F1 H1 g1 e1 h1 x rx => ?_)
  refine hv _ _ _ _ _ _ _ _ g1 (po_imp (po_bind h1) fun b s2 F2 H2 g2 e2 h2 y ry => ?_)
  refine hr _ _ _ _ _ _ _ _ g2 (po_imp (po_bind h2) fun ps s3 F3 H3 g3 e3 h3 vs rs => ?_)
  exact po_ret h3 g3 _ (.cons ((rx.mono e2).mono e3) (ry.mono e3) rs)
theorem se_disp {trs : List (TE × TE)} {fs : List (M T D × M T D)} (h : Sps C W trs fs) : Se C W (tDisp trs) (mDisp fs) := by
  intro F0 H0 L s σ F H Q g q p hp
  have g1 := g.alloc (o := .dK []) hp
  have sv : SlotV C H0 s σ F (upd H p (.dK [])) (.ref p) (.od []) := ⟨p, [], rfl, Tmp.fresh g hp, upd_same, .nil⟩
  obtain ⟨H2, g2, k1, k2⟩ := hold g1 sv
  refine h _ _ _ _ _ _ _ _ g2 (po_imp (po_hold (po_bind q) fun s' F' H' g' e' => (k1 s' F' H' g' e').1) fun ps s3 F3 H3 g3 e3 h3 vs rs => ?_)
  obtain ⟨g4, p', ks', ep, t4, hp4, r4⟩ := k1 s3 F3 H3 g3 e3
  cases ep
  cases r4
  obtain ⟨x, q2, h4⟩ := po_lift h3
  by_cases hl : ps.length ≤ 15
  · rw [if_pos hl] at q2
    cases q3 : mergeD [] ps with
    | none => rw [q3] at q2; cases q2
    | some r =>
      rw [q3] at q2
      cases q2
      obtain ⟨kvs, e1, e2, e5⟩ := merge_rep rs (.nil) q3
      exact ⟨hp4, kvs, e1, by rw [e2]; exact hl, po_ret h4 (g4.updTmp t4) _ ⟨p, _, rfl, ⟨t4.f, t4.h0, t4.no⟩, upd_same, e5⟩⟩
  · rw [if_neg hl] at q2; cases q2
theorem se_dnew : Se C W tDNewK (mRet (.od [])) := by
  intro F0 H0 L s σ F H Q g q p hp
  exact po_ret q (g.alloc (o := .dK []) hp) _ ⟨p, [], rfl, Tmp.fresh g hp, upd_same, .nil⟩
/-- d.get(k, x) -/
def asDict : D → Option (List (D × D))
  | .dict kvs => some kvs
  | _ => none
def getOr (kvs : List (D × D)) (k x : D) : Option D := match keyOf k with
  | some k' => match valD kvs k' with
    | some d => some d
    | none => some x
  | none => none
def mGet {T : Type} (fa fk fx : M T D) : M T D := mBind fa fun a => mBind (mLift (asDict a)) fun kvs => mBind fk fun k => mBind fx fun x => mLift (getOr kvs k x)
def mGetP {T : Type} (i : Nat) (fk fx : M T D) : M T D := mBind (slotD i) fun a => mBind (mLift (asDict a)) fun _ => mBind fk fun k => mBind fx fun x => mBind (slotD i) fun a => mBind (mLift (asDict a)) fun kvs => mLift (getOr kvs k x)
theorem get_rep {F H : Hp} {p : Addr} {ks : List (Key × V)} {kvs : List (D × D)} {y z : V} {k x : D} {Q : VK} (hp : Rd H p (.dK ks)) (r : RepKV C.K F ks kvs) (ry : Rep C.K F y k) (rz : Rep C.K F z x) {d : D} (q : getOr kvs k x = some d) (h : ∀ v, Rep C.K F v d → Q v H) :
    ∃ o, DGet H p y o ∧ Q (o.getD z) H := by
  unfold getOr at q
  cases q1 : keyOf k with
  | none => rw [q1] at q; cases q
  | some k' =>
    rw [q1] at q
    dsimp only at q
    obtain ⟨ey, _⟩ := keyOf_rep ry q1
    refine ⟨valV ks k', .inl ⟨ks, k', hp, ey, rfl⟩, ?_⟩
    rcases r.val k' with ⟨z1, z2⟩ | ⟨d', w, z1, z2, rw'⟩
    · rw [z1] at q; cases q
      rw [z2]; exact h _ rz
    · rw [z1] at q; cases q
      rw [z2]; exact h _ rw'
theorem sv_get {ta tk tx : TE} {fa fk fx : M T D} (ha : Sv C W ta fa) (hk : Sv C W tk fk) (hx : Sv C W tx fx) : Sv C W (tDGet2 ta tk tx) (mGet fa fk fx) := by
  intro F0 H0 L s σ F H Q g h
  refine ha _ _ _ _ _ _ _ _ g (po_imp (po_bind h) fun a s1 F1 H1 g1 e1 h1 v rv => ?_)
  obtain ⟨kvs, q0, h1⟩ := po_lift (po_bind h1)
  have h1 := po_ret h1 g1
  cases rv with
  | dic hp r =>
    cases q0
    rename_i p ks
    refine ⟨p, rfl, .inl ⟨ks, g1.sub.dic hp⟩, ?_⟩
    refine hk _ _ _ _ _ _ _ _ g1 (po_imp (po_bind h1) fun k s2 F2 H2 g2 e2 h2 y ry => ?_)
    refine hx _ _ _ _ _ _ _ _ g2 (po_imp (po_bind h2) fun x s3 F3 H3 g3 e3 h3 z rz => ?_)
    obtain ⟨d, q, h4⟩ := po_lift h3
    exact get_rep (g3.sub.dic (e3 _ _ (e2 _ _ hp))) ((r.mono e2).mono e3) (ry.mono e3) rz q (po_ret h4 g3)
  | _ => cases q0
theorem sv_getP {i : Nat} {tk tx : TE} {fk fx : M T D} (hk : Sv C W tk fk) (hx : Sv C W tx fx) : Sv C W (tDGet2 (tVar i) tk tx) (mGetP i fk fx) := by
  intro F0 H0 L s σ F H Q g h
  obtain ⟨x, a, hx0, hp0, h⟩ := po_slotD (po_bind h)
  have h := po_ret h g
  obtain ⟨kvs, q0, h⟩ := po_lift (po_bind h)
  have h := po_ret h g
  obtain ⟨v, hv, rv⟩ := g.peek hx0 hp0
  refine ⟨v, hv, ?_⟩
  have dic : ∃ p ks, v = .ref p ∧ Rd H p (.dK ks) := by
    rcases rv with rv | ⟨p, xs, ds, rfl, rfl, hp, r⟩ | ⟨p, xs, ds, rfl, rfl, hp, r⟩
    · cases rv with
      | dic hp r => exact ⟨_, _, rfl, g.sub.dic hp⟩
      | _ => cases q0
    · cases q0
    · exact ⟨p, xs, rfl, .inl hp⟩
  obtain ⟨p, ks, rfl, hR⟩ := dic
  refine ⟨p, rfl, .inl ⟨ks, hR⟩, ?_⟩
  refine hk _ _ _ _ _ _ _ _ g (po_imp (po_bind h) fun k s2 F2 H2 g2 e2 h2 y ry => ?_)
  refine hx _ _ _ _ _ _ _ _ g2 (po_imp (po_bind h2) fun x s3 F3 H3 g3 e3 h3 z rz => ?_)
  obtain ⟨x3, a3, hx3, hp3, h3⟩ := po_slotD (po_bind h3)
  have h3 := po_ret h3 g3
  obtain ⟨kvs3, q3, h3⟩ := po_lift (po_bind h3)
  have h3 := po_ret h3 g3
  obtain ⟨d, q, h4⟩ := po_lift h3
  obtain ⟨v3, hv3, rv3⟩ := g3.peek hx3 hp3
  rw [hv] at hv3
  cases hv3
  have dic3 : ∃ ks, Rd H3 p (.dK ks) ∧ RepKV C.K F3 ks kvs3 := by
    rcases rv3 with rv | ⟨p', xs, ds, e, rfl, hp, r⟩ | ⟨p', xs, ds, e, rfl, hp, r⟩
    · cases rv with
      | dic hp r => cases q3; exact ⟨_, g3.sub.dic hp, r⟩
      | _ => cases q3
    · cases q3
    · cases q3; cases e; exact ⟨xs, .inl hp, r⟩
  obtain ⟨ks3, hR3, r3⟩ := dic3
  exact get_rep hR3 r3 (ry.mono e3) rz q (po_ret h4 g3)
/-- d[k] = v, d a slot's own -/
def mDPut {T : Type} (i : Nat) (fk fv : M T D) : M T Out := mBind fv fun v => fun s => match s.env[i]? with
  | some (.od _) => mBind fk (fun k s1 => match s1.env[i]?, keyOf k with
    | some (.od kvs), some k' => if kvs.length < lim then .ok .nx ⟨s1.env.set i (.od (putD kvs k' v)), s1.t⟩ else .stuck
    | _, _ => .stuck) s
  | _ => .stuck
theorem sb_dput {i : Nat} {tk tv : TE} {fk fv : M T D} (hk : Sv C W tk fk) (hv : Sv C W tv fv) : Sb C W (sDPut (tVar i) tk tv) (mDPut i fk fv) := by
  intro F0 H0 L s σ F H E g h
  refine hv _ _ _ _ _ _ _ _ g (po_imp (pos_bind h) fun v s1 F1 H1 g1 e1 h1 y ry => ?_)
  cases q0 : s1.env[i]? with
  | none => rw [q0] at h1; exact h1.elim
  | some x =>
    rw [q0] at h1
    cases x with
    | od kvs =>
      simp only at h1
      obtain ⟨p, vs, z1, z2, z3, z4, z5⟩ := g1.slots i _ q0
      refine ⟨.ref p, z1, ?_⟩
      refine hk _ _ _ _ _ _ _ _ g1 (po_imp (pos_bind h1) fun k s2 F2 H2 g2 e2 h2 z rz => ?_)
      cases q1 : s2.env[i]? with
      | none => rw [q1] at h2; exact h2.elim
      | some y2 =>
        cases q2 : keyOf k with
        | none => rw [q1, q2] at h2; cases y2 <;> exact h2.elim
        | some k' =>
          rw [q1, q2] at h2
          cases y2 with
          | od kvs2 =>
            simp only at h2
            by_cases hl : kvs2.length < lim
            · rw [if_pos hl] at h2
              obtain ⟨p', ws, w1, w2, w3, w4, w5⟩ := g2.slots i _ q1
              rw [z1] at w1; cases w1
              obtain ⟨ey, _⟩ := keyOf_rep rz q2
              refine ⟨p, _, rfl, .inl ⟨ws, k', w4, ey, by rw [w5.length]; exact Nat.lt_of_lt_of_le hl (lim_ok (Nat.le_refl _)), rfl⟩, ?_⟩
              exact h2 _ _ _ (g2.mutate (o := HO.dK (putK ws k' y)) q1 rfl z1 (y := .od (putD kvs2 k' v)) ⟨p, _, rfl, w2, w3, upd_same, w5.put (ry.mono e2)⟩ w2 w3 ⟨_, w4⟩) (Same.refl _)
            · rw [if_neg hl] at h2; exact h2.elim
          | _ => exact h2.elim
    | _ => exact h1.elim
end
structure DPs {T : Type} (X : Cx) (C : Ct T) (W : WX) (pos : Pos) (keys : List (Option Expr)) (values : List Expr) (trs : List (TE × TE)) (fs : List (M T D × M T D)) : Prop where
  pe : PPs X pos keys values trs
  sv : Sps C W trs fs
section
variable {T : Type} {X : Cx} {C : Ct T} {W : WX} {k : Nat} {cls : Nat → Addr} {K : PySem.W.Frag} {a b c e : Expr} {es : List Expr} {pos : Pos} {ta tb tc : TE} {fa fb fc : M T D}
theorem dps_nil : DPs X C W pos [] [] [] [] := ⟨pps_nil, sps_nil⟩
theorem dps_cons {ks : List (Option Expr)} {vs : List Expr} {trs : List (TE × TE)} {fs : List (M T D × M T D)} (ha : DV X C W a ta fa) (hb : DV X C W b tb fb) (hr : DPs X C W pos ks vs trs fs) : DPs X C W pos (some a :: ks) (b :: vs) ((ta, tb) :: trs) ((fa, fb) :: fs) := ⟨pps_cons ha.pe hb.pe hr.pe, sps_cons ha.sv hb.sv hr.sv⟩
theorem de_disp {ks : List (Option Expr)} {vs : List Expr} {trs : List (TE × TE)} {fs : List (M T D × M T D)} (h : DPs X C W pos ks vs trs fs) (hall : ks.all (·.isSome) = true := by rfl) (hl : ks.length = vs.length := by rfl) (h0 : ks ≠ [] := by exact List.cons_ne_nil _ _) (h15 : ks.length ≤ 15 := by decide) : DE X C W (.Dict ks vs pos) (tDisp trs) (mDisp fs) := ⟨pe_disp h.pe hall hl h0 h15, se_disp h.sv⟩
theorem de_dnew : DE X C W (.Dict [] [] pos) tDNewK (mRet (.od [])) := ⟨pe_dnewK, se_dnew⟩
theorem dv_get {apos cpos : Pos} (q : Cur X C W k cls K) (ha : DV X C W a ta fa) (hb : DV X C W b tb fb) (hc : DV X C W c tc fc) (m : M2 X a "get" apos b c cpos := by exact ⟨rfl, rfl, rfl, rfl⟩) : DV X C W (.Call (.Attribute a "get" apos) [b, c] [] cpos) (tDGet2 ta tb tc) (mGet fa fb fc) :=
  ⟨pe_dget2 (by have := q.un; omega) ha.pe hb.pe hc.pe m, sv_get ha.sv hb.sv hc.sv⟩
theorem dv_getP {apos cpos : Pos} (q : Cur X C W k cls K) (i : Nat) (ha : PE X a (tVar i)) (hb : DV X C W b tb fb) (hc : DV X C W c tc fc) (m : M2 X a "get" apos b c cpos := by exact ⟨rfl, rfl, rfl, rfl⟩) : DV X C W (.Call (.Attribute a "get" apos) [b, c] [] cpos) (tDGet2 (tVar i) tb tc) (mGetP i fb fc) :=
  ⟨pe_dget2 (by have := q.un; omega) ha hb.pe hc.pe m, sv_getP hb.sv hc.sv⟩
theorem ds_dput {pos' : Pos} (q : Cur X C W k cls K) (i : Nat) (ha : PE X a (tVar i)) (hb : DV X C W b tb fb) (hc : DV X C W c tc fc) (hs : swapsWith c (some (.Subscript a b pos')) pos.line X.env = pure false := by rfl) : DS X C W (.Assign [.Subscript a b pos'] c pos) (sDPut (tVar i) tb tc) (mDPut i fb fc) :=
  ⟨ps_dput (by have := q.un; omega) ha hb.pe hc.pe hs, sb_dput hb.sv hc.sv⟩
end
end Pm

set_option Elab.async false
set_option linter.all false
set_option maxRecDepth 100000
/-! Pure evaluation. -/
namespace Pm
open PySem L2 RZ
theorem mulOk_of {i j : Int} (hi : i.natAbs < 2 ^ 64) (hj : j.natAbs < 2 ^ 64) : mulOk i j = true := by
  unfold mulOk
  have k : ∀ n : Nat, n < 2 ^ 64 → n.log2 < 65 := fun n h => by
    by_cases h0 : n = 0
    · subst h0; decide
    · exact Nat.lt_succ_of_lt ((Nat.log2_lt h0).mpr h)
  have := k _ hi
  have := k _ hj
  exact decide_eq_true (by omega)
section
variable {T α β : Type}
theorem mBind_ap (m : M T α) (f : α → M T β) (s : S T) : mBind m f s = (match m s with
  | .ok a s' => f a s'
  | .exc c s' => .exc c s'
  | .stuck => .stuck) := rfl
theorem mRet_ap (a : α) (s : S T) : mRet a s = .ok a s := rfl
theorem mLift_ap (o : Option α) (s : S T) : mLift o s = (match o with
  | some a => .ok a s
  | none => .stuck) := rfl
end
theorem atI_nat {α : Type} (xs : List α) (n : Nat) : atI xs (@OfNat.ofNat Int n (@instOfNat n)) = xs[n]? := by
  unfold atI ixN
  have e : (@OfNat.ofNat Int n (@instOfNat n)) = ((n : Nat) : Int) := rfl
  rw [e, if_pos (Int.natCast_nonneg n)]
  by_cases h : n < xs.length
  · rw [if_pos (by omega)]; simp
  · rw [if_neg (by omega)]; simp at h; simp [h]
theorem atI_0 {α : Type} (xs : List α) : atI xs 0 = xs[0]? := atI_nat xs 0
theorem atI_1 {α : Type} (xs : List α) : atI xs 1 = xs[1]? := atI_nat xs 1
theorem atI_2 {α : Type} (xs : List α) : atI xs 2 = xs[2]? := atI_nat xs 2
theorem atI_3 {α : Type} (xs : List α) : atI xs 3 = xs[3]? := atI_nat xs 3
theorem atI_4 {α : Type} (xs : List α) : atI xs 4 = xs[4]? := atI_nat xs 4
theorem atI_5 {α : Type} (xs : List α) : atI xs 5 = xs[5]? := atI_nat xs 5
theorem atI_6 {α : Type} (xs : List α) : atI xs 6 = xs[6]? := atI_nat xs 6
theorem atI_7 {α : Type} (xs : List α) : atI xs 7 = xs[7]? := atI_nat xs 7
theorem atI_8 {α : Type} (xs : List α) : atI xs 8 = xs[8]? := atI_nat xs 8
theorem atI_9 {α : Type} (xs : List α) : atI xs 9 = xs[9]? := atI_nat xs 9
theorem opEq_of {a b : D} {c : Bool} (h1 : SeqAt.shaped a = true) (h2 : SeqAt.shaped b = true) (h3 : PyData.eqv a b = c) : opEq a b = some (.bool c) := by
  unfold opEq; rw [h1, h2, h3]; rfl
theorem opNe_of {a b : D} {c : Bool} (h1 : SeqAt.shaped a = true) (h2 : SeqAt.shaped b = true) (h3 : PyData.eqv a b = c) : opNe a b = some (.bool (!c)) := by
  unfold opNe; rw [h1, h2, h3]; rfl
theorem opEq_ii (a b : Int) : opEq (.int a) (.int b) = some (.bool (decide (a = b))) := opEq_of rfl rfl rfl
theorem opNe_ii (a b : Int) : opNe (.int a) (.int b) = some (.bool (!decide (a = b))) := opNe_of rfl rfl rfl
theorem opEq_bb (a b : Bool) : opEq (.bool a) (.bool b) = some (.bool (a == b)) := opEq_of rfl rfl rfl
theorem opNe_bb (a b : Bool) : opNe (.bool a) (.bool b) = some (.bool (a != b)) := opNe_of rfl rfl rfl
theorem drawT {t : Town} {n : Int} (h0 : 0 < n) (h1 : n < 1000000) : ∃ d t', gDraw [.pt 0, .pt 1, .fz (.int n)] t = .ok (.int d) t' ∧ 0 ≤ d ∧ d < n := ⟨(drawF t n).1, (drawF t n).2, by show (if 0 < n ∧ n < 1000000 then _ else _) = _; rw [if_pos ⟨h0, h1⟩], draw_lt t n h0⟩
theorem mSeq_ap {T : Type} (f g : M T Out) (s : S T) : mSeq f g s = (match f s with
  | .ok .nx s' => g s'
  | .ok o s' => .ok o s'
  | .exc c s' => .exc c s'
  | .stuck => .stuck) := by
  unfold mSeq mBind
  cases f s with
  | ok o s' => cases o <;> rfl
  | exc c s' => rfl
  | stuck => rfl
theorem seq_nx {T : Type} {f g : M T Out} {s s' : S T} (h : f s = .ok .nx s') : mSeq f g s = g s' := by rw [mSeq_ap, h]
mutual
def beqD : D → D → Bool
  | .none, .none => true
  | .bool a, .bool b => a == b
  | .int a, .int b => a == b
  | .str a, .str b => decide (a = b)
  | .list a, .list b => beqDs a b
  | .tuple a, .tuple b => beqDs a b
  | .dict a, .dict b => beqKV a b
  | _, _ => false
def beqDs : List D → List D → Bool
  | [], [] => true
  | a :: as, b :: bs => beqD a b && beqDs as bs
  | _, _ => false
def beqKV : List (D × D) → List (D × D) → Bool
  | [], [] => true
  | (a, x) :: as, (b, y) :: bs => (beqD a b && beqD x y) && beqKV as bs
  | _, _ => false
end
mutual
theorem beqD_eq : ∀ {a b : D}, beqD a b = true → a = b
  | .none, b, h => by cases b <;> simp [beqD] at h ⊢
  | .bool a, b, h => by cases b <;> simp [beqD] at h ⊢; exact h
  | .int a, b, h => by cases b <;> simp [beqD] at h ⊢; exact h
  | .str a, b, h => by cases b <;> simp [beqD] at h ⊢; exact h
  | .list a, b, h => by cases b <;> simp [beqD] at h ⊢; exact beqDs_eq h
  | .tuple a, b, h => by cases b <;> simp [beqD] at h ⊢; exact beqDs_eq h
  | .dict a, b, h => by cases b <;> simp [beqD] at h ⊢; exact beqKV_eq h
theorem beqDs_eq : ∀ {a b : List D}, beqDs a b = true → a = b
  | [], b, h => by cases b <;> simp [beqDs] at h ⊢
  | a :: as, b, h => by cases b <;> simp [beqDs] at h ⊢; exact ⟨beqD_eq h.1, beqDs_eq h.2⟩
theorem beqKV_eq : ∀ {a b : List (D × D)}, beqKV a b = true → a = b
  | [], b, h => by cases b <;> simp [beqKV] at h ⊢
  | (a, x) :: as, b, h => by
    cases b with
    | nil => simp [beqKV] at h
    | cons p bs =>
      obtain ⟨b, y⟩ := p
      simp [beqKV] at h
      rw [beqD_eq h.1.1, beqD_eq h.1.2, beqKV_eq h.2]
end
def okIs : Rp → D → Bool
  | .ok d, e => beqD d e
  | _, _ => false
theorem ok_by {r : Rp} {d : D} (h : okIs r d = true) : r = .ok d := by
  cases r with
  | ok e => rw [beqD_eq h]
  | exc c => cases h
  | stuck => cases h
def optIs : Option D → D → Bool
  | some d, e => beqD d e
  | _, _ => false
theorem opt_by {r : Option D} {d : D} (h : optIs r d = true) : r = some d := by
  cases r with
  | some e => rw [beqD_eq h]
  | none => cases h
def optKV : Option (List (D × D)) → List (D × D) → Bool
  | some d, e => beqKV d e
  | _, _ => false
theorem kv_by {r : Option (List (D × D))} {d : List (D × D)} (h : optKV r d = true) : r = some d := by
  cases r with
  | some e => rw [beqKV_eq h]
  | none => cases h
end Pm

set_option Elab.async false
set_option linter.all false
set_option maxRecDepth 100000
/-! Lists' methods: extend, count, index. -/
namespace Pm
open PySem L2 RZ
def asL : D → Option (List D)
  | .list ds => some ds
  | _ => none
def mBmP {T : Type} (op : D → D → Option D) (i : Nat) (fb : M T D) : M T D := mBind (slotD i) fun a => mBind (mLift (asL a)) fun _ => mBind fb fun b => mBind (slotD i) fun a => mLift (op a b)
abbrev rCntF (K : PySem.W.Frag) : V → List V → Hp → VK → Prop := fun x xs H Q => ∃ (p : Addr) (ys : List V) (y : V), x = .ref p ∧ xs = [y] ∧ SqL K H p ys ∧ flatV y = true ∧ ys.all flatV = true ∧ Q (.int (ys.countP fun z => eqV z y : Nat)) H
open PySem.Spec PyProof.Rows in
theorem count_of {uy : Value} {y : V} : ∀ {ys : List V} {us : List Value}, Vals ys us → ys.all flatV = true → us.countP (eqU y) = ys.countP fun z => eqV z y
  | _, _, .nil, _ => rfl
  | z :: zs, u :: us, .cons r t, f => by
    rw [List.all_cons, Bool.and_eq_true] at f
    rw [List.countP_cons, List.countP_cons, count_of (uy := uy) t f.2, eqU_of r f.1]
open PySem.Spec PyProof.Rows in
theorem mt_countF {X : Cx} : MtR X "list.count" (rCntF X.K) := by
  intro pins s σ H x xs v us Q I rx rxs h
  obtain ⟨p, ys, y, rfl, rfl, hs, fy, fys, q⟩ := h
  cases rx
  obtain ⟨u, rfl, ru⟩ := rxs.one
  obtain ⟨its, rv, ⟨⟨cls, dd, data, sl⟩, n, ho, hc, hdn, hd⟩, hlen⟩ := I.list hs
  simp only at hc hd
  subst hc hd
  refine call_meets PySem.F.slot_list_count ⟨_, ho, rfl⟩ PySem.F.entry_list_count (PySem.F.args_list_count_2 _ _)
    (SeqAt.list_countAt p its.toArray n dd sl u (eqU y)) ⟨ho, fun u' hu' => mem_eqAt ru fy rv fys u' (by simpa using hu'), ?_⟩
  have ec : its.toArray.toList.countP (eqU y) = ys.countP fun z => eqV z y := count_of (uy := u) rv fys
  refine ⟨.int (ys.countP fun z => eqV z y : Nat), H, I.tok _, ⟨s.toks, ?_⟩, q⟩
  show Value.int ((its.toArray.toList.countP (eqU y) : Nat) : Int) s.toks = _
  rw [ec]
def opCount : D → D → Option D
  | .list ds, y => if flatD y && ds.all flatD then some (.int ((ds.map toV).countP fun z => eqV z (toV y) : Nat)) else none
  | _, _ => none
def opIndex : D → D → Option D
  | .list ds, y => if flatD y && ds.all flatD then ((ds.map toV).findIdx? fun z => eqV z (toV y)).map fun j => .int (j : Nat) else none
  | _, _ => none
section
variable {T : Type} {C : Ct T} {W : WX} {F0 H0 F F1 H : Hp} {L : Nat → Option Addr} {s : S T} {σ : L2.St} {α β : Type}
theorem rsh_list {x : V} {ds : List D} (g : Good C F0 H0 L s σ F H) (r : Rsh C.K F H x (.list ds)) : ∃ p vs, x = .ref p ∧ SqL C.K H p vs ∧ RepL C.K F vs ds := by
  rcases r with r | ⟨p, xs, ds', rfl, e, hp, r⟩ | ⟨p, xs, ds', rfl, e, hp, r⟩
  · cases r with
    | lst hx r => exact ⟨_, _, rfl, SqL.of (g.sub.lst hx), r⟩
  · cases e; exact ⟨p, xs, rfl, SqL.of hp, r⟩
  · cases e
theorem rw_count : Rw C (fun x y => rCntF C.K x [y]) opCount := by
  intro F0 H0 L s σ F H x y a b Q g rx ry h
  cases a with
  | list ds =>
    obtain ⟨p, vs, rfl, hs, r⟩ := rsh_list g rx
    dsimp only [opCount] at h
    by_cases hl : (flatD b && ds.all flatD) = true
    · rw [if_pos hl] at h
      rw [Bool.and_eq_true] at hl
      obtain ⟨e1, f1⟩ := rep_flat ry hl.1
      obtain ⟨e2, f2⟩ := rep_flats r hl.2
      refine ⟨p, vs, y, rfl, rfl, hs, f1, f2, ?_⟩
      rw [e1, e2]
      exact rv_end g h (.int _)
    · rw [if_neg hl] at h; exact h.elim
  | _ => exact h.elim
theorem rw_index : Rw C (fun x y => rIndex C.K x [y]) opIndex := by
  intro F0 H0 L s σ F H x y a b Q g rx ry h
  cases a with
  | list ds =>
    obtain ⟨p, vs, rfl, hs, r⟩ := rsh_list g rx
    dsimp only [opIndex] at h
    by_cases hl : (flatD b && ds.all flatD) = true
    · rw [if_pos hl] at h
      rw [Bool.and_eq_true] at hl
      obtain ⟨e1, f1⟩ := rep_flat ry hl.1
      obtain ⟨e2, f2⟩ := rep_flats r hl.2
      cases q : (ds.map toV).findIdx? fun z => eqV z (toV b) with
      | none => rw [q] at h; exact h.elim
      | some j =>
        rw [q] at h
        obtain ⟨hj, h1, h2⟩ := List.findIdx?_eq_some_iff_getElem.mp q
        refine ⟨p, vs, y, j, (ds.map toV)[j], rfl, rfl, hs, f1, f2, by rw [e2]; exact List.getElem?_eq_getElem hj, by rw [e1]; exact h1, fun m z' hm hz => ?_, rv_end g h (.int _)⟩
        rw [e2] at hz
        obtain ⟨hm2, hz2⟩ := List.getElem?_eq_some_iff.mp hz
        have := h2 m hm
        rw [hz2] at this
        rw [e1]
        simpa using this
    · rw [if_neg hl] at h; exact h.elim
  | _ => exact h.elim
theorem sv_bmP {r : V → List V → Hp → VK → Prop} {op : D → D → Option D} {tb : TE} {fb : M T D} {i : Nat} (hb : Sv C W tb fb) (hr : Rw C (fun x y => r x [y]) op) : Sv C W (tBM C.K "list" r (tVar i) (tCons tb tNil)) (mBmP op i fb) := by
  intro F0 H0 L s σ F H Q g h
  obtain ⟨x0, d0, hx0, hd0, h0⟩ := po_slotD (po_bind h)
  obtain ⟨ds0, q0, h00⟩ := po_lift (po_bind (po_ret h0 g))
  have h01 := po_ret h00 g
  obtain ⟨v, hv, rs0⟩ := g.peek hx0 hd0
  have el : d0 = .list ds0 := by cases d0 <;> cases q0; rfl
  rw [el] at rs0
  obtain ⟨p0, vs0, ep, hs0, _⟩ := rsh_list g rs0
  subst ep
  refine ⟨.ref p0, hv, .inl ⟨rfl, _, hs0⟩, hb _ _ _ _ _ _ _ _ g (po_imp (po_bind h01) fun b s1 F1 H1 g1 e1 h1 w rw' => ?_)⟩
  obtain ⟨x, d, hx, hd, h2⟩ := po_slotD (po_bind h1)
  obtain ⟨d', q, h4⟩ := po_lift (po_ret h2 g1)
  obtain ⟨v', hv', rs⟩ := g1.peek hx hd
  rw [hv] at hv'; cases hv'
  refine hr _ _ _ _ _ _ _ _ _ _ _ _ g1 rs rw' ?_
  rw [q]
  exact fun v' F' H' g' e' r' => h4 F' H' g' e' v' r'
/-- xs.extend(ys) -/
def mExtend {T : Type} (i : Nat) (fa : M T D) : M T D := fun s => match s.env[i]? with
  | some (.ol _) => mBind fa (fun d s1 => match s1.env[i]?, d with
    | some (.ol xs), .list ys => if xs.length + ys.length ≤ lim then .ok .none ⟨s1.env.set i (.ol (xs ++ ys)), s1.t⟩ else .stuck
    | _, _ => .stuck) s
  | _ => .stuck
theorem sv_extend {i : Nat} {ta : TE} {fa : M T D} (ha : Sv C W ta fa) : Sv C W (tBM C.K "list" rExtend (tVar i) (tCons ta tNil)) (mExtend i fa) := by
  intro F0 H0 L s σ F H Q g h
  unfold mExtend at h
  cases q0 : s.env[i]? with
  | none => rw [q0] at h; exact h.elim
  | some x =>
    rw [q0] at h
    cases x with
    | ol xs =>
      simp only at h
      obtain ⟨p, vs, h1, h2, h3, h4, h5⟩ := g.slots i _ q0
      refine ⟨.ref p, h1, .inl ⟨rfl, _, SqL.of h4⟩, ?_⟩
      refine ha _ _ _ _ _ _ _ _ g (po_imp (po_bind h) fun d s1 F1 H1 g1 e1 k1 v rv => ?_)
      cases q1 : s1.env[i]? with
      | none => rw [q1] at k1; exact k1.elim
      | some y =>
        rw [q1] at k1
        cases y with
        | ol ys =>
          cases rv with
          | lst hx rz =>
            rename_i b zs ds
            simp only at k1
            by_cases hl : ys.length + ds.length ≤ lim
            · rw [if_pos hl] at k1
              obtain ⟨p', ws, z1, z2, z3, z4, z5⟩ := g1.slots i _ q1
              rw [h1] at z1; cases z1
              refine ⟨p, b, ws, zs, rfl, rfl, z4, g1.sub.lst hx, ?_, ?_⟩
              · rw [z5.length, rz.length]; exact lim_ok hl
              · have g2 := g1.mutate (o := HO.lst (ws ++ zs)) q1 rfl h1 (y := .ol (ys ++ ds)) ⟨p, _, rfl, z2, z3, upd_same, z5.append rz⟩ z2 z3 ⟨_, z4⟩
                exact k1 _ _ g2 (Same.refl _) _ .non
            · rw [if_neg hl] at k1; exact k1.elim
          | _ => exact k1.elim
        | _ => cases d <;> exact k1.elim
    | _ => exact h.elim
end
section
variable {T : Type} {X : Cx} {C : Ct T} {W : WX} {k : Nat} {cls : Nat → Addr} {K : PySem.W.Frag} {a b c e : Expr} {es : List Expr} {pos : Pos} {ta tb tc : TE} {fa fb fc : M T D}
theorem dv_extend {bb : Bool} (q : CurB bb X C W k cls K) (i : Nat) {o : Expr} {apos cpos : Pos} (ho : PE X o (tVar i)) (ha : DV X C W a ta fa)
    (hbase : attributeBase o "extend" X.env (eval o X.env) = eval o X.env := by rfl)
    (hfew : ((backTo cpos (starEach [a] X.env)).all (fun x => !x.1) && (backToKw cpos (keywordEach [] X.env)).all (fun x => x.1.isSome)
      && decide ([a].length + ([] : List Keyword).length + (if ([] : List Keyword).isEmpty then 0 else 1) < 30)) = true := by rfl)
    (hline : (apos.endLine == cpos.line) = true := by rfl) (hs : starEach [a] X.env = (false, eval a X.env) :: starEach [] X.env := by rfl) (hplain : (backTo cpos (starEach [] X.env)).any (·.1) = false := by rfl) :
    DV X C W (.Call (.Attribute o "extend" apos) [a] [] cpos) (tBM K "list" rExtend (tVar i) (tCons ta tNil)) (mExtend i fa) :=
  ⟨by rw [← q.hX]; exact pe_bm PySem.F.plainAttrs_list PySem.F.slot_list_extend PySem.F.type_list_extend mt_extend ho (pa_cons ha.pe pa_nil hs) hbase hfew hline hs hplain, by rw [← q.hK]; exact sv_extend ha.sv⟩
theorem dv_countP {bb : Bool} (q : CurB bb X C W k cls K) (i : Nat) {o : Expr} {apos cpos : Pos} (ho : PE X o (tVar i)) (ha : DV X C W a ta fa)
    (hbase : attributeBase o "count" X.env (eval o X.env) = eval o X.env := by rfl)
    (hfew : ((backTo cpos (starEach [a] X.env)).all (fun x => !x.1) && (backToKw cpos (keywordEach [] X.env)).all (fun x => x.1.isSome)
      && decide ([a].length + ([] : List Keyword).length + (if ([] : List Keyword).isEmpty then 0 else 1) < 30)) = true := by rfl)
    (hline : (apos.endLine == cpos.line) = true := by rfl) (hs : starEach [a] X.env = (false, eval a X.env) :: starEach [] X.env := by rfl) (hplain : (backTo cpos (starEach [] X.env)).any (·.1) = false := by rfl) :
    DV X C W (.Call (.Attribute o "count" apos) [a] [] cpos) (tBM K "list" (rCntF K) (tVar i) (tCons ta tNil)) (mBmP opCount i fa) :=
  ⟨by rw [← q.hX]; exact pe_bm PySem.F.plainAttrs_list PySem.F.slot_list_count PySem.F.type_list_count mt_countF ho (pa_cons ha.pe pa_nil hs) hbase hfew hline hs hplain, by rw [← q.hK]; exact sv_bmP ha.sv rw_count⟩
theorem dv_indexP {bb : Bool} (q : CurB bb X C W k cls K) (i : Nat) {o : Expr} {apos cpos : Pos} (ho : PE X o (tVar i)) (ha : DV X C W a ta fa)
    (hbase : attributeBase o "index" X.env (eval o X.env) = eval o X.env := by rfl)
    (hfew : ((backTo cpos (starEach [a] X.env)).all (fun x => !x.1) && (backToKw cpos (keywordEach [] X.env)).all (fun x => x.1.isSome)
      && decide ([a].length + ([] : List Keyword).length + (if ([] : List Keyword).isEmpty then 0 else 1) < 30)) = true := by rfl)
    (hline : (apos.endLine == cpos.line) = true := by rfl) (hs : starEach [a] X.env = (false, eval a X.env) :: starEach [] X.env := by rfl) (hplain : (backTo cpos (starEach [] X.env)).any (·.1) = false := by rfl) :
    DV X C W (.Call (.Attribute o "index" apos) [a] [] cpos) (tBM K "list" (rIndex K) (tVar i) (tCons ta tNil)) (mBmP opIndex i fa) :=
  ⟨by rw [← q.hX]; exact pe_bm PySem.F.plainAttrs_list PySem.F.slot_list_index PySem.F.type_list_index mt_index ho (pa_cons ha.pe pa_nil hs) hbase hfew hline hs hplain, by rw [← q.hK]; exact sv_bmP ha.sv rw_index⟩
end
end Pm

set_option Elab.async false
set_option linter.all false
set_option maxRecDepth 100000
/-! A def that is handed the exception that is handled; try .. except X as e: return f(e). -/
namespace Pm
open PySem L2 RZ

/-- the exception of the code c stands at a -/
def CWh (K : PySem.W.Frag) (cls : Nat → Addr) (a : Addr) (c : Nat) : Ct Nat where
  ptr := fun _ => a
  fp := []
  J := fun t _ _ => t = c
  stab := fun _ _ _ _ _ h _ _ => h
  K := K
  cls := cls
structure FnW (P : Program) (w : World) (K : PySem.W.Frag) (mg : Str → Option Value) (base : Heap) (k : Nat) (f : Addr) (fd : FuncData) (ps : List Str) (pn : Addr × Obj) (sp : Sp) : Prop where
  len : ∀ vs H Q E, sp vs H Q E → vs.length = ps.length
  run : ∀ (A : Around) (fr : List Env) (s : Shared) (H : Hp) (as : Args) (us : List Value) (vs : List V) (Q : VK) (E : XK), L2H.RoomH k A → L2H.PinOk fr H s pn → Env0 P w K mg base A fr s H → BindsTo s fd as (ps.zip us) → Vals vs us → sp vs H Q E →
    codeAny (model P w) A (.call (.ref f) as) (CR (L2.CX P w) fr P w H s Q E) s
section
variable {P : Program} {w : World} {K : PySem.W.Frag} {mg : Str → Option Value} {base : Heap} {T : Type}
open PySem.Spec PyProof.Rows in
theorem okWh {Cs : Ct T → Prop} {x qual : Str} {st : Stmt} {f : Addr} {fd : FuncData} {N ps : List Str} {k : Nat} {m : M T Out} (F : Fun K x qual st f fd) (S : FnScope N ps (defScope st)) (pn : Addr × Obj)
    (hbody : ∀ (cdv : Value) (A : Around) (fr : List Env) (s : Shared) (H : Hp) (E : XK), L2H.RoomH k (A.deeper (PyProof.Rows.envOfC qual (defScope st) s.heap.objs.size f cdv)) →
      ∃ t, PSs (L2H.cxH (L2.CX P w) P w K mg base N qual (defScope st) f cdv A fr s H E pn) (defBody st) t ∧ ∀ C, Cs C → Sb C (WofE E) t m) :
    FnW P w K mg base (k + 1) f fd ps pn (spX Cs (fnT ps.length N.length m)) := by
  obtain ⟨oc, od, kV, doc, pm, an, cdv, ct, osl, rfl, lk, hcd⟩ := F.ex
  have hpl : ps.length ≤ N.length := by
    have e := congrArg List.length S.pre
    rw [List.length_take] at e
    omega
  have hlen : ∀ (vs : List V) (H : Hp) (Q : VK) (E : XK), spX Cs (fnT ps.length N.length m) vs H Q E → vs.length = ps.length := fun vs H Q E h => by
    obtain ⟨C, hC, F1, xs, t, u, j, fp, r, q⟩ := h
    unfold fnT at q
    by_cases hl : xs.length = ps.length ∧ xs.all argOk = true
    · rw [r.length, hl.1]
    · rw [if_neg hl] at q; exact q.elim
  refine ⟨hlen, fun A fr s H as us vs Q E room pin env bind rel prom => ?_⟩
  have n := hlen _ _ _ _ prom
  have kin : K.In s.heap := env.mod.kin.keeps fun b o z => (env.bs b o z).1
  have nol : s.heap.NoLimit := env.mod.nolimit.keeps fun b o z => (env.bs b o z).1
  have kinds : ∀ y ∈ ps.zip us, (defScope st).names.lookup y.1 = some .local ∨ ((defScope st).names.lookup y.1 = some .cell ∧ ((cellsFrom (s.heap.objs.size + 1) (defScope st).names []).lookup y.1).isSome = true) := fun p hp =>
    (S.par p.1 (List.of_mem_zip hp).1).imp id fun z => ⟨z, PySem.W.cellsFrom_some _ _ _ (.inl z)⟩
  refine codeAny_call_function room.depth (kin _ _ lk) rfl S.co S.gen rfl (PySem.W.codeRec_of kin hcd) (bind _ _ _ _ ?_)
  refine wpAny_newFunctionEnv_cells S.kind kinds fun env1 eq s1 x1 => ?_
  subst eq
  refine ⟨nol.keeps x1.toInCall.keep, codeAny_func ?_⟩
  obtain ⟨t, ht, sb⟩ := hbody cdv A fr s H E (room.deeper _)
  have start : Inv (L2H.cxH (L2.CX P w) P w K mg base N qual (defScope st) f cdv A fr s H E pn) [] (L2.start N vs) H s1 := L2H.inv_startH S pin env n rel x1
  refine wpAny_mono (ht.run [] s1 (L2.start N vs) H _ start (body_T hpl sb prom)) (fun fl s2 h2 => ?_) fun _ _ z => z
  cases fl with
  | brk => obtain ⟨_, _, _, z⟩ := h2; exact z.elim
  | cont => obtain ⟨_, _, _, z⟩ := h2; exact z.elim
  | next => obtain ⟨σ2, H2, J, z⟩ := h2; exact ⟨.non, H2, J.os, J.bare, J.base, J.hok, rfl, z⟩
  | ret u => obtain ⟨v, σ2, H2, J, rv, z⟩ := h2; exact ⟨v, H2, J.os, J.bare, J.base, J.hok, rv, z⟩
end
section
variable {X : Cx} {k : Nat} {f : Addr} {fd : FuncData} {ps : List Str} {sp : Sp} {x : Str} {p pos : Pos} {e : Expr} {es : List Expr} {t : TA} {pn : Addr × Obj}
/-- a call of it, the exception pinned; nothing is raised there -/
theorem pe_callW (hp : pn ∈ X.pn) (F : FnW X.prog X.w X.K X.mg X.base k f fd ps pn sp) (hr : L2H.RoomH k X.A) (hg : Gl X x) (hm : X.mg x = some (.ref f)) (hk : PySem.W.keepIn X.K (.ref f) = true) (hb : Binds X.K fd ps [])
    (ha : PA X (e :: es) t) (hdb : (x == ("__debug__" : Str)) = false := by decide) (he : starEach (e :: es) X.env = (false, eval e X.env) :: starEach es X.env := by rfl) (hpl : (backTo pos (starEach es X.env)).any (·.1) = false := by rfl) :
    PE X (.Call (.Name x p) (e :: es) [] pos) (tCallS sp (fun _ _ _ _ => False) t) := by
  refine ⟨fun pins s σ H Q I h => ?_⟩
  refine wpAny_Call_Name_kw (ld_glob I hg hm ?_ hdb)
  refine PySem.W.callWith_K (h₀ := X.base) I.ok.mod.kin hk (thn (ha.run pos pins s σ H _ I h) fun us s1 ⟨vs, H1, I1, r, q⟩ => ⟨I1.kIn, ?_⟩) he hpl
  have n : us.length = ps.length := by rw [← r.length]; exact F.len _ _ _ _ q
  have b := hb s1 us I1.kIn (by rw [List.append_nil]; exact n)
  rw [List.append_nil] at b
  obtain ⟨p1, p2, p3, p4, p5⟩ := I1.pin pn (List.mem_append_left _ hp)
  have ok : L2H.PinOk X.stack H1 s1 pn := ⟨p1, p2, fun z => (List.mem_cons.mp (I1.stkSub pn.1 z)).elim p3 p4, p5⟩
  refine wpAny_call (codeAny_mono (F.run X.A X.stack s1 H1 ⟨us, []⟩ us vs Q (fun _ _ _ => False) hr ok I1.env0 b r q) fun r2 s2 h2 => ?_)
  match r2, h2 with
  | .ok (.ret u), h2 => exact I1.after h2
  | .ok .next, h2 => exact h2.elim
  | .ok .brk, h2 => exact h2.elim
  | .ok .cont, h2 => exact h2.elim
  | .error u, h2 =>
    obtain ⟨_, _, _, _, _, _, _, _, _, _, _, _, z⟩ := h2
    exact z.elim
/-- isinstance(e, X), e's object pinned -/
theorem call_isW {a D : Addr} {oe : Obj} (C : ExcC X.K D) (hz : Zc (.ref D) none oe) (hf : ∃ vs, oe.data = .fields vs) (hp : (a, oe) ∈ X.pn) : CallR X (.builtin "isinstance") (rIsE X.K D a) := by
  intro pins s σ H xs us Q I r h
  obtain ⟨c, cv, b, rfl, hcv, e, q⟩ := h
  cases r with
  | cons rx rr =>
    cases rr with
    | cons rt rr =>
      cases rr
      cases rx
      cases hcv _ rt
      obtain ⟨vs, hv⟩ := hf
      have at_ := (I.pin (a, oe) (List.mem_append.mpr (.inl hp))).1
      have J : PySem.W.InstAt s.heap a oe D none := by
        obtain ⟨oc, od, oda, osl⟩ := oe
        obtain ⟨h1, h2⟩ := hz
        dsimp only at h1 h2 hv
        subst h1 h2 hv
        exact ⟨at_, rfl, rfl, trivial⟩
      exact PySem.W.kia_one (PySem.W.handS_kitx_exc C.hg C.hk C.hs C.hd C.ha C.hn C.ht C.hm) I.kIn J e (fun z => nomatch z) fun tk => ⟨.bl b, H, I.kept (t' := tk) fun _ _ z => z, rfl, q⟩
end
def mIsW (b : Nat → Option Bool) (i : Nat) : M Nat D := fun s => match s.env[i]?, b s.t with
  | some (.pt _), some k => .ok (.bool k) s
  | _, _ => .stuck
theorem sv_isW {K : PySem.W.Frag} {cls : Nat → Addr} {a : Addr} {c : Nat} {W : WX} {i : Nat} {v : V} {cv : Value} {b : Nat → Option Bool} (hv : ∀ u, RelV v u → u = cv) (hb : ∀ k, b c = some k → PySem.W.kitOne K (.ref (cls c)) cv = some k) :
    Sv (CWh K cls a c) W (tCB (rIsE K (cls c) a) (tCons (tVar i) (tCons (tC v) tNil))) (mIsW b i) := by
  intro F0 H0 L s σ F H Q g h
  unfold mIsW at h
  have j : s.t = c := g.j
  rw [j] at h
  cases q : s.env[i]? with
  | none => rw [q] at h; exact h.elim
  | some x =>
    rw [q] at h
    cases x with
    | pt n =>
      cases q2 : b c with
      | none => rw [q2] at h; exact h.elim
      | some k =>
        rw [q2] at h
        exact ⟨_, g.slots i _ q, v, cv, k, rfl, hv, hb k q2, h F H g (Same.refl F) _ (.bl k)⟩
    | _ => exact h.elim
section
variable {X : Cx} {W : WX} {K : PySem.W.Frag} {cls : Nat → Addr} {a e : Expr} {p p1 p2 pos : Pos} {en x : Str}
/-- isinstance(e, X), X a class of the module -/
theorem dv_isW {aa : Addr} {oe : Obj} {c : Nat} (i n : Nat) (b : Nat → Option Bool) (hX : X.K = K) (CC : ExcC K (cls c)) (hz : Zc (.ref (cls c)) none oe) (hf : ∃ vs, oe.data = .fields vs) (hp : (aa, oe) ∈ X.pn) (hm : X.mg "isinstance" = none) (hx : X.mg x = some (.ref (cls n))) (hb : ∀ k, b c = some k → PySem.W.kitOne K (.ref (cls c)) (.ref (cls n)) = some k)
    (hN : X.N[i]? = some en := by rfl) (hv : Vis X.env.scope en := by first | exact Or.inl rfl | exact Or.inr (Or.inl rfl) | exact Or.inr (Or.inr rfl)) (hd1 : (en == ("__debug__" : Str)) = false := by decide) (hcd : (en == ("__classdict__" : Str)) = false := by decide)
    (hg : Gl X "isinstance" := by rfl) (hgx : Gl X x := by rfl) (hdb : (x == ("__debug__" : Str)) = false := by decide) (he : starEach [.Name en p1, .Name x p2] X.env = (false, eval (.Name en p1) X.env) :: starEach [.Name x p2] X.env := by rfl) (he2 : starEach [.Name x p2] X.env = (false, eval (.Name x p2) X.env) :: starEach [] X.env := by rfl) (hpl : (backTo pos (starEach [.Name x p2] X.env)).any (·.1) = false := by rfl) :
    DV X (CWh K cls aa c) W (.Call (.Name "isinstance" p) [.Name en p1, .Name x p2] [] pos) (tCB (rIsE K (cls c) aa) (tCons (tVar i) (tCons (tC (.ref (cls n))) tNil))) (mIsW b i) := by
  subst hX
  exact ⟨pe_callB (call_isW CC hz hf hp) hg hm PyProof.Rows.boot_isinstance (pa_cons (pe_var hN hv hd1 hcd) (pa_cons (pe_glob hgx hx rfl hdb) pa_nil he2) he) (by decide) (by decide) he hpl, sv_isW (fun u r => r) hb⟩
/-- isinstance(e, ValueError) -/
theorem dv_isWV {aa : Addr} {oe : Obj} {c : Nat} (i : Nat) (b : Nat → Option Bool) (hX : X.K = K) (CC : ExcC K (cls c)) (hz : Zc (.ref (cls c)) none oe) (hf : ∃ vs, oe.data = .fields vs) (hp : (aa, oe) ∈ X.pn) (hm : X.mg "isinstance" = none) (hx : X.mg "ValueError" = none) (hb : ∀ k, b c = some k → PySem.W.kitOne K (.ref (cls c)) (.type "ValueError") = some k)
    (hN : X.N[i]? = some en := by rfl) (hv : Vis X.env.scope en := by first | exact Or.inl rfl | exact Or.inr (Or.inl rfl) | exact Or.inr (Or.inr rfl)) (hd1 : (en == ("__debug__" : Str)) = false := by decide) (hcd : (en == ("__classdict__" : Str)) = false := by decide)
    (hg : Gl X "isinstance" := by rfl) (hgx : Gl X "ValueError" := by rfl) (he : starEach [.Name en p1, .Name "ValueError" p2] X.env = (false, eval (.Name en p1) X.env) :: starEach [.Name "ValueError" p2] X.env := by rfl) (he2 : starEach [.Name "ValueError" p2] X.env = (false, eval (.Name "ValueError" p2) X.env) :: starEach [] X.env := by rfl) (hpl : (backTo pos (starEach [.Name "ValueError" p2] X.env)).any (·.1) = false := by rfl) :
    DV X (CWh K cls aa c) W (.Call (.Name "isinstance" p) [.Name en p1, .Name "ValueError" p2] [] pos) (tCB (rIsE K (cls c) aa) (tCons (tVar i) (tCons (tC (.ty "ValueError")) tNil))) (mIsW b i) := by
  subst hX
  exact ⟨pe_callB (call_isW CC hz hf hp) hg hm PyProof.Rows.boot_isinstance (pa_cons (pe_var hN hv hd1 hcd) (pa_cons (pe_bltn hgx hx (by decide +kernel) rfl (by decide) (by decide)) pa_nil he2) he) (by decide) (by decide) he hpl, sv_isW (fun u r => r) hb⟩
end
end Pm

set_option Elab.async false
set_option linter.all false
set_option maxRecDepth 100000
/-! try .. except X as e: return f(e). -/
namespace Pm
open PySem L2 RZ
def mTryW {T : Type} (i : Nat) (okc : Nat → Bool) (g : List Slot → Nat → Rt Nat) (m : M T Out) : M T Out := fun s => match m s with
  | .exc c s' => if okc c = true ∧ i < s'.env.length then (match g [.pt 0] c with
    | .ok d _ => .ok (.ret d) s'
    | _ => .stuck) else .stuck
  | .ok o s' => .ok o s'
  | .stuck => .stuck
/-- the suite's reading -/
def tsW (K : PySem.W.Frag) (cls : Nat → Addr) (okc : Nat → Bool) (g : List Slot → Nat → Rt Nat) (i : Nat) : Addr → Value → Option Addr → TS := fun a cl d D σ H =>
  ∃ c, okc c = true ∧ cl = .ref (cls c) ∧ d = none ∧ tRet (tCallS (spX (fun C => C = CWh K cls a c) g) (fun _ _ _ _ => False) (tCons (tVar i) tNil)) D σ H
section
variable {T : Type} {X : Cx} {C : Ct T} {W : WX} {k : Nat} {cls : Nat → Addr} {K : PySem.W.Frag}
/-- what is asked of the def that is handed the exception -/
structure DefW (P : Program) (w : World) (K : PySem.W.Frag) (mg : Str → Option Value) (base : Heap) (cls : Nat → Addr) (x : Str) (k : Nat) (ps : List Str) (okc : Nat → Bool) (g : List Slot → Nat → Rt Nat) : Prop where
  ok : ∀ (pn : Addr × Obj) (c : Nat), okc c = true → Zc (.ref (cls c)) none pn.2 → (∃ vs, pn.2.data = .fields vs) →
    ∃ (f : Addr) (fd : FuncData), FnW P w K mg base k f fd ps pn (spX (fun C => C = CWh K cls pn.1 c) g) ∧ mg x = some (.ref f) ∧ PySem.W.keepIn K (.ref f) = true ∧ Binds K fd ps []
  ex : ∀ c, okc c = true → PySem.W.exmOne K (.ref (cls c)) (.ref (cls 0)) = some true
theorem sb_tryW {tb : WX → TS} {m : M T Out} {okc : Nat → Bool} {g : List Slot → Nat → Rt Nat} {i : Nat} (hK : C.K = K) (hc : C.cls = cls) (he : ∀ c, okc c = true → PySem.W.exmOne K (.ref (cls c)) (.ref (cls 0)) = some true)
    (hb : ∀ W', Sb C W' (tb W') m) : Sb C W (fun D σ H => tb (wAs K (.ref (cls 0)) i (tsW K cls okc g i) W D) D σ H) (mTryW i okc g m) := by
  intro F0 H0 L s σ F H E gd h
  refine hb _ _ _ _ _ _ _ _ _ gd ?_
  unfold mTryW at h
  cases q : m s with
  | stuck => rw [q] at h; exact h
  | ok o s' =>
    rw [q] at h
    cases o <;> exact h
  | exc c s' =>
    rw [q] at h
    simp only at h
    intro σ' F' H' g' e'
    by_cases ho : okc c = true ∧ i < s'.env.length
    · rw [if_pos ho] at h
      refine ⟨true, by rw [hc]; exact he c ho.1, fun _ a _ => ⟨c, ho.1, by rw [hc], rfl, ?_⟩, fun z => nomatch z⟩
      have hl : i < σ'.length := by rw [← g'.len]; exact ho.2
      refine ⟨.ref a, by rw [List.getElem?_set_self hl], CWh K cls a c, rfl, F', [.pt 0], c, g'.sub, rfl, (fun b z => absurd z (by simp [CWh])), ⟨rfl, trivial⟩, ?_⟩
      cases q2 : g [.pt 0] c with
      | stuck => rw [q2] at h; exact h.elim
      | exc c2 t2 => rw [q2] at h; exact h.elim
      | ok d t2 =>
        rw [q2] at h
        intro v F2 H2 af rv
        have g2 : Good C F0 H0 L s' σ' F2 H2 := g'.aft ⟨af.ex, af.sub, fun a o h => (af.nw a o h).imp id (fun z => z.elim id (fun z => nomatch z.1)), fun b o z => af.st b o z (by simp [CWh])⟩
        exact h v σ' F2 H2 g2 (e'.trans af.ex) (by rw [hK]; exact rv)
    · rw [if_neg ho] at h; exact h.elim
theorem ds_tryW {x n fn : Str} {body : List Stmt} {np ep fp cp rp hp tp : Pos} {tb : WX → TS} {m : M T Out} {okc : Nat → Bool} {g : List Slot → Nat → Rt Nat} {k' : Nat} {ps : List Str} (i : Nat) (q : Cur X C W k cls K) (FW : DefW X.prog X.w X.K X.mg X.base cls fn k' ps okc g) (hk : k' ≤ k) (gP : X.mg x = some (.ref (cls 0)))
    (hb : ∀ (W' : WX) (pn : List (Addr × Obj)) (xe : Value → Shared → Prop), Cur (X.tr pn xe) C W' k cls K → DSs (X.tr pn xe) C W' body (tb W') m)
    (hs : X.stack = X.env :: X.outer := by rfl) (hf : X.env.frame = some X.env.locals := by rfl) (hi : X.N[i]? = some n := by rfl) (hln : X.env.kindOf n = some .local := by rfl) (hgx : Gl X x := by rfl) (hgf : Gl X fn := by rfl) (hdx : (x == ("__debug__" : Str)) = false := by decide) (hdf : (fn == ("__debug__" : Str)) = false := by decide)
    (hdn : (n == ("__debug__" : Str)) = false := by decide) (hcn : (n == ("__classdict__" : Str)) = false := by decide)
    (he : starEach [.Name n ep] X.env = (false, eval (.Name n ep) X.env) :: starEach [] X.env := by rfl) (hpl : (backTo cp (starEach [] X.env)).any (·.1) = false := by rfl) :
    DS X C W (.Try body [.ExceptHandler (some (.Name x np)) (some n) [.Return (some (.Call (.Name fn fp) [.Name n ep] [] cp)) rp] hp] [] [] tp) (fun D σ H => tb (wAs K (.ref (cls 0)) i (tsW K cls okc g i) W D) D σ H) (mTryW i okc g m) := by
  refine ⟨?_, sb_tryW q.hK q.hc (fun c ho => by rw [← q.hX]; exact FW.ex c ho) fun W' => ?_⟩
  · have hX := q.hX
    subst hX
    refine ps_try_as (i := i) hs hf q.nd hi hln ⟨hgx, hdx, .inl gP⟩ q.tk (fun W' pn xe tk po => (hb W' pn xe (Cur.mk' tk q.hr rfl q.hK q.calm q.nd q.hc)).pe) (fun a oe cl d pn hz hfl => ⟨fun pins s σ H D I h => ?_⟩)
    obtain ⟨c, ho, rfl, rfl, h⟩ := h
    obtain ⟨f, fd, F1, hm, kp, bi⟩ := FW.ok (a, oe) c ho hz hfl
    refine (pss_one (ps_ret (pe_callW (X := X.suite a ((a, oe) :: pn)) (pn := (a, oe)) List.mem_cons_self F1 ?_ hgf hm kp bi (pa_cons (pe_var hi (.inl hln) hdn hcn) pa_nil he) hdf he hpl))).run pins s σ H D I h
    have r := q.hr.mono hk
    exact ⟨r.dp, r.un⟩
  · exact (hb W' [] (fun _ _ => True) (Cur.mk' (fun _ _ _ => trivial) q.hr q.hX q.hK q.calm q.nd q.hc)).sv
end
end Pm

set_option Elab.async false
set_option linter.all false
set_option maxRecDepth 100000
/-! list(x). -/
namespace Pm
open PySem L2 RZ
abbrev rListA (K : PySem.W.Frag) : List V → Hp → VK → Prop := rcOr (fun xs H Q => ∃ p ys, xs = [.ref p] ∧ (SqL K H p ys ∨ SqT K H p ys) ∧ ∀ l, H l = none → Q (.ref l) (upd H l (.lst ys)))
  (fun xs H Q => ∃ (a : Addr) (kvs : List (Key × V)), xs = [.ref a] ∧ Rd H a (.dK kvs) ∧ ∀ p, H p = none → Q (.ref p) (upd H p (.lst (kvs.map fun kv => kV kv.1))))
def listOf : D → Option (List D)
  | .list ds => some ds
  | .tuple ds => some ds
  | .dict kvs => some (kvs.map (·.1))
  | _ => none
def mListOf {T : Type} (f : M T D) : M T Slot := mBind f fun d => mLift ((listOf d).map .ol)
theorem rep_kd {K : PySem.W.Frag} {F : Hp} : ∀ k : Key, Rep K F (kV k) (kD k)
  | .inl i => .int i
  | .inr x => .str x
theorem RepKV.keys {K : PySem.W.Frag} {F : Hp} : ∀ {ks : List (Key × V)} {ds : List (D × D)}, RepKV K F ks ds → RepL K F (ks.map fun kv => kV kv.1) (ds.map (·.1))
  | _, _, .nil => .nil
  | _, _, .cons _ r => .cons (rep_kd _) r.keys
section
variable {T : Type} {C : Ct T} {W : WX} {X : Cx} {k : Nat} {cls : Nat → Addr} {K : PySem.W.Frag} {a : Expr} {p pos : Pos} {ta : TE} {fa : M T D}
theorem se_list (h : Sv C W ta fa) : Se C W (tCB (rListA C.K) (tCons ta tNil)) (mListOf fa) := by
  intro F0 H0 L s σ F H Q g q
  refine h _ _ _ _ _ _ _ _ g (po_imp (po_bind q) fun d s1 F1 H1 g1 e1 h1 v rv => ?_)
  obtain ⟨x, q2, h2⟩ := po_lift h1
  have fin : ∀ (ys : List V) (ds : List D), RepL C.K F1 ys ds → x = .ol ds → ∀ l, H1 l = none → Q (.ref l) (upd H1 l (.lst ys)) := fun ys ds r ex l hl => by
    subst ex
    exact po_ret h2 (g1.alloc hl) _ ⟨l, ys, rfl, Tmp.fresh g1 hl, upd_same, r⟩
  cases rv with
  | lst hx r => cases q2; exact .inl ⟨_, _, rfl, .inl (SqL.of (g1.sub.lst hx)), fin _ _ r rfl⟩
  | tup hx r => cases q2; exact .inl ⟨_, _, rfl, .inr (g1.sub.tup hx), fin _ _ r rfl⟩
  | dic hx r => cases q2; exact .inr ⟨_, _, rfl, g1.sub.dic hx, fin _ _ r.keys rfl⟩
  | _ => cases q2
theorem de_list (q : Cur X C W k cls K) (hm : X.mg "list" = none) (ha : DV X C W a ta fa) (hg : Gl X "list" := by rfl) (he : starEach [a] X.env = (false, eval a X.env) :: starEach [] X.env := by rfl) : DE X C W (.Call (.Name "list" p) [a] [] pos) (tCB (rListA K) (tCons ta tNil)) (mListOf fa) :=
  ⟨by rw [← q.hX]; exact pe_callTy (call_list_of.or (call_listD q.calm)) hg hm PyProof.Rows.boot_list (pa_cons ha.pe pa_nil he) (by decide) (by decide) he (by rfl), by rw [← q.hK]; exact se_list ha.sv⟩
end
theorem DSs.twoE {T : Type} {X : Cx} {C : Ct T} {W : WX} {st : List Stmt} {t : TS} {m : M T Out} (h : DSs X C W st t m) : ∃ t, PSs X st t ∧ ∀ C', C' = C → Sb C' W t m := ⟨t, h.pe, fun _ e => e ▸ h.sv⟩
/-! ### facts of the exceptions -/
theorem kit_ref {K : PySem.W.Frag} {D X : Addr} {b : Bool} (i : PySem.W.hasDictIn K X = true) (t : PySem.W.typeIn K (.ref X) = some (.type "type")) (s : PySem.W.subIn K (.ref D) (.ref X) = some b) (s2 : PySem.W.subIn K (.ref D) (.ref D) = some true) : PySem.W.kitOne K (.ref D) (.ref X) = some b := by
  unfold PySem.W.kitOne
  by_cases h : D = X
  · subst h
    rw [s] at s2
    rw [s2, if_pos (by simp)]
  · rw [if_neg (by simpa using h)]
    obtain ⟨cd, hc, _⟩ := PySem.W.any_some i
    show (if ((PySem.W.clsIn K X).isSome && PySem.W.typeIn K (.ref X) == some (.type "type")) = true then PySem.W.subIn K (.ref D) (.ref X) else none) = some b
    rw [hc, t, if_pos (by simp)]
    exact s
theorem kit_sub {K : PySem.W.Frag} {D : Addr} {n : String} {b : Bool} (m : PySem.W.kitMeta n = true) (s : PySem.W.subIn K (.ref D) (.type n) = some b) : PySem.W.kitOne K (.ref D) (.type n) = some b := by
  unfold PySem.W.kitOne
  rw [if_neg (by simp)]
  show (if PySem.W.kitMeta n = true then PySem.W.subIn K (.ref D) (.type n) else none) = some b
  rw [if_pos m]
  exact s
def tabW (okc : Nat → Bool) (n : Nat) (c : Nat) : Option Bool := if okc c = true then some (decide (c = n)) else none
def tabV (okc : Nat → Bool) (c : Nat) : Option Bool := if okc c = true then some true else none
theorem tab_of {okc : Nat → Bool} {n c : Nat} {o : Option Bool} (ho : okc c = true) (h : o = some (decide (c = n))) : ∀ k, tabW okc n c = some k → o = some k := fun k z => by
  unfold tabW at z
  rw [if_pos ho] at z
  rw [h, z]
theorem tabV_of {okc : Nat → Bool} {c : Nat} {o : Option Bool} (ho : okc c = true) (h : o = some true) : ∀ k, tabV okc c = some k → o = some k := fun k z => by
  unfold tabV at z
  rw [if_pos ho] at z
  rw [h, z]
end Pm

set_option Elab.async false
set_option linter.all false
set_option maxRecDepth 100000
/-! sorted(ints), enumerate(list). -/
namespace Pm
open PySem L2 RZ
def opSorted : D → Option D
  | .list ds => (dInts ds).bind fun ns => if ns.length < 64 then some (.list ((ns.mergeSort fun a b => decide (a ≤ b)).map .int)) else none
  | _ => none
theorem perm_sorted_eq : ∀ {as bs : List Int}, as.Perm bs → as.Pairwise (· ≤ ·) → bs.Pairwise (· ≤ ·) → as = bs
  | [], bs, p, _, _ => (List.nil_perm.mp p).symm ▸ rfl
  | a :: as, [], p, _, _ => by have := p.length_eq; simp at this
  | a :: as, b :: bs, p, ha, hb => by
    have h1 : a ≤ b := by
      have : b ∈ a :: as := p.symm.subset List.mem_cons_self
      rcases List.mem_cons.mp this with e | e
      · omega
      · exact (List.pairwise_cons.mp ha).1 b e
    have h2 : b ≤ a := by
      have : a ∈ b :: bs := p.subset List.mem_cons_self
      rcases List.mem_cons.mp this with e | e
      · omega
      · exact (List.pairwise_cons.mp hb).1 a e
    have e : a = b := by omega
    subst e
    rw [perm_sorted_eq ((List.perm_cons a).mp p) (List.pairwise_cons.mp ha).2 (List.pairwise_cons.mp hb).2]
theorem sort_eq {ns ns' : List Int} (p : ns'.Perm ns) (h : ns'.Pairwise (· ≤ ·)) : ns' = ns.mergeSort fun a b => decide (a ≤ b) := by
  refine perm_sorted_eq (p.trans (List.mergeSort_perm _ _).symm) h ?_
  have := List.pairwise_mergeSort (le := fun a b : Int => decide (a ≤ b)) (fun a b c h1 h2 => by simp at *; omega) (fun a b => by simp; omega) ns
  exact this.imp fun h => by simpa using h
def enumD : Int → List D → List D
  | _, [] => []
  | i, d :: r => .tuple [.int i, d] :: enumD (i + 1) r
theorem enumD_length : ∀ (i : Int) (ds : List D), (enumD i ds).length = ds.length
  | _, [] => rfl
  | i, d :: r => by unfold enumD; rw [List.length_cons, enumD_length, List.length_cons]
theorem enumD_get : ∀ {ds : List D} {i : Int} {j : Nat} {d : D}, (enumD i ds)[j]? = some d → ∃ x, ds[j]? = some x ∧ d = .tuple [.int (i + j), x]
  | [], _, _, _, h => by simp [enumD] at h
  | x :: ds, i, 0, d, h => by simp [enumD] at h; exact ⟨x, rfl, by simp [h]⟩
  | x :: ds, i, j + 1, d, h => by
    obtain ⟨y, h1, h2⟩ := enumD_get (ds := ds) (i := i + 1) (j := j) (by simpa [enumD] using h)
    refine ⟨y, by simpa using h1, ?_⟩
    have e : i + 1 + (j : Int) = i + ((j + 1 : Nat) : Int) := by omega
    rw [h2, e]
def mEnum {T : Type} (f : M T D) : M T (List D) := mBind f fun d => mLift (match d with
  | .list ds => some (enumD 0 ds)
  | _ => none)
section
variable {T : Type} {C : Ct T} {W : WX} {X : Cx} {k : Nat} {cls : Nat → Addr} {K : PySem.W.Frag} {a : Expr} {p pos : Pos} {ta : TE} {fa : M T D}
theorem ru_sorted : Ru C (fun x => rSorted C.K [x]) opSorted := by
  intro F0 H0 L s σ F H x d Q g rx h
  cases rx with
  | lst hx r =>
    rename_i p xs ds
    dsimp only [opSorted] at h
    cases q : dInts ds with
    | none => rw [q] at h; exact h.elim
    | some ns =>
      rw [q] at h
      dsimp only [Option.bind_some] at h
      by_cases hl : ns.length < 64
      · rw [if_pos hl] at h
        have e := rep_ints r q
        refine ⟨p, ns, rfl, by rw [← e]; exact SqL.of (g.sub.lst hx), hl, fun ns' l hp hs hl2 => ?_⟩
        rw [sort_eq hp hs]
        have e1 := Same.updN (o := HO.lst ((ns.mergeSort fun a b => decide (a ≤ b)).map V.int)) (g.sub.nn hl2)
        exact h _ _ _ (g.allocF hl2) e1 (.lst upd_same (repl_ints _))
      · rw [if_neg hl] at h; exact h.elim
  | _ => exact h.elim
theorem si_enum (ha : Sv C W ta fa) : Si C W (iEnum C.K (tCons ta tNil)) (mEnum fa) := by
  intro F0 H0 L s σ F H R g h
  refine ha _ _ _ _ _ _ _ _ g (po_imp (po_bind h) fun d s1 F1 H1 g1 e1 h1 v rv => ?_)
  obtain ⟨items, q, h2⟩ := po_lift h1
  have h3 := po_ret h2 g1
  cases rv with
  | lst hx r =>
    rename_i ad xs ds
    cases q
    have hw : Walk (Ite C.K ad) (enumD 0 ds).length (fun H => SqL C.K H ad xs) (YPair (fun i => some (.int (i : Nat))) (fun i => xs[i]?)) := by
      rw [enumD_length, ← r.length]; exact walk_enum
    refine ⟨ad, xs, rfl, SqL.of (g1.sub.lst hx), h3 _ ⟨_, _, hw, fun F' H' e u _ => SqL.of (u.lst (e _ _ hx)), fun i x F' H' H3 d e u hd y => ?_⟩⟩
    · obtain ⟨tp, b, c, h1, h2, h3, h4, h5⟩ := y
      obtain ⟨z, hz, rfl⟩ := enumD_get hd
      obtain ⟨w, k1, k2⟩ := r.get hz
      dsimp only at h4 h5
      rw [h5] at k1; cases k1
      cases h4
      refine .inr ⟨tp, _, _, _, _, h1, h2, h3, ?_, k2.mono e, rfl⟩
      rw [Int.zero_add]
      exact .int _
  | _ => cases q
theorem dv_sorted {bb : Bool} (q : CurB bb X C W k cls K) (hm : X.mg "sorted" = none) (ha : DV X C W a ta fa) (hg : Gl X "sorted" := by rfl) (he : starEach [a] X.env = (false, eval a X.env) :: starEach [] X.env := by rfl) : DV X C W (.Call (.Name "sorted" p) [a] [] pos) (tCB (rSorted K) (tCons ta tNil)) (mUn opSorted fa) :=
  ⟨by rw [← q.hX]; exact pe_callB cr_sorted hg hm PyProof.Rows.boot_sorted (pa_cons ha.pe pa_nil he) (by decide) (by decide) he (by rfl), by rw [← q.hK]; exact sv_cb1 ha.sv ru_sorted⟩
theorem di_enum {elts : List Expr} {kk : Nat} {tpos : Pos} {bb : Bool} (q : CurB bb X C W k cls K) (hm : X.mg "enumerate" = none) (ha : DV X C W a ta fa) (hg : Gl X "enumerate" := by rfl) (hs : starEach [a] X.env = [(false, eval a X.env)] := by rfl) :
    DI X C W (.Tuple elts kk tpos) (.Call (.Name "enumerate" p) [a] [] pos) (iEnum K (tCons ta tNil)) (mEnum fa) := ⟨by rw [← q.hX]; exact pi_enum hg hm (pa_cons ha.pe pa_nil (by rw [hs]; rfl)) hs, by rw [← q.hK]; exact si_enum ha.sv⟩
end
end Pm

set_option Elab.async false
set_option linter.all false
set_option maxRecDepth 100000
/-! xs[::-1] of a list, of a tuple. -/
namespace Pm
open PySem L2 RZ
section
variable {prog : Program} {w : World} {A : Around} {E : Value → Shared → Prop} {s : Shared}
open PySem.Spec PyProof.Rows HT
theorem adjust_rev (n : Nat) : Builtin.Slice.sliceAdjust none none (-1) (n : Int) = ((n : Int) - 1, -1) := by
  unfold Builtin.Slice.sliceAdjust
  simp
theorem places_rev (n : Nat) : Builtin.Slice.slicePlaces ((n : Int) - 1) (-1) (-1) = n := by
  unfold Builtin.Slice.slicePlaces
  have h1 : ¬ ((-1 : Int) > 0) := by omega
  rw [if_neg h1, show (-(-1) : Int) = 1 from rfl, Int.ediv_one]
  split <;> omega
theorem sliced_rev {sl : Addr} {vs : Value} {n : Nat} {Q : Int × Int × Nat → Shared → Prop} (hs : s.heap.IsSliceOf sl .none .none vs) (ps : IsPart vs (some (-1))) (h : Q ((n : Int) - 1, -1, n) s) :
    wpAny (model prog w) A (Builtin.Slice.sliceApplied (.ref sl) (pure (n : Int))) Q E s := by
  obtain ⟨os, hos, hcs, hds⟩ := id hs
  unfold Builtin.Slice.sliceApplied Builtin.Slice.sliceFields
  refine wpAny_bind (wpAny_bind (wpAny_field hos hds (x := .none) rfl (wpAny_bind (wpAny_field hos hds (x := .none) rfl (wpAny_bind (wpAny_field hos hds (x := vs) rfl (wpAny_pure ?_)))))))
  refine wpAny_bind (slicePart_ ps ?_)
  show wpAny _ _ (if ((-1 : Int) == 0) = true then _ else _) _ _ s
  rw [if_neg (by decide)]
  refine wpAny_bind (slicePart_none (wpAny_bind (slicePart_none (wpAny_bind (wpAny_pure ?_)))))
  show wpAny _ _ (match Builtin.Slice.sliceAdjust none none (-1) (n : Int) with | (lo, hi) => pure (lo, (-1 : Int), Builtin.Slice.slicePlaces lo hi (-1))) _ _ s
  rw [adjust_rev n]
  show wpAny _ _ (pure ((n : Int) - 1, (-1 : Int), Builtin.Slice.slicePlaces ((n : Int) - 1) (-1) (-1))) _ _ s
  rw [places_rev]
  exact wpAny_pure h
theorem fm_congr {α β : Type} {f g : α → Option β} : ∀ {l : List α}, (∀ x ∈ l, f x = g x) → l.filterMap f = l.filterMap g
  | [], _ => rfl
  | a :: l, h => by
    rw [List.filterMap_cons, List.filterMap_cons, h a List.mem_cons_self, fm_congr fun x hx => h x (List.mem_cons_of_mem _ hx)]
theorem picked_rev (xs : Array Value) : ((List.range xs.size).filterMap fun (m : Nat) => xs[((xs.size : Int) - 1 + (m : Int) * (-1)).toNat]?).toArray = xs.toList.reverse.toArray := by
  congr 1
  apply List.ext_getElem?
  intro i
  have e : (List.range xs.size).filterMap (fun (m : Nat) => xs[((xs.size : Int) - 1 + (m : Int) * (-1)).toNat]?) = (List.range xs.size).map fun m => xs.toList.reverse.getD m .none := by
    rw [← List.filterMap_eq_map]
    refine fm_congr fun m hm => ?_
    have hm' : m < xs.size := List.mem_range.mp hm
    have ei : ((xs.size : Int) - 1 + (m : Int) * (-1)).toNat = xs.size - 1 - m := by omega
    rw [ei]
    show xs[xs.size - 1 - m]? = some (xs.toList.reverse.getD m .none)
    rw [List.getD_eq_getElem?_getD, List.getElem?_reverse (by simpa using hm')]
    simp [show xs.size - 1 - m < xs.size by omega]
  rw [e, List.getElem?_map]
  by_cases h : i < xs.size
  · rw [List.getElem?_range h]
    have h2 : i < xs.toList.reverse.length := by simpa using h
    simp [List.getD_eq_getElem?_getD, List.getElem?_eq_getElem h2]
  · rw [List.getElem?_eq_none (by simpa using h), List.getElem?_eq_none (by simpa using h)]
    rfl
theorem getItem_tuple_rev {t sl : Addr} {items : Array Value} {vs : Value} {Q : Value → Shared → Prop} (ht : IsTup s.heap t items) (hs : s.heap.IsSliceOf sl .none .none vs) (ps : IsPart vs (some (-1)))
    (h : Q (.ref s.heap.objs.size) { s with heap := s.heap.push { cls := .type "tuple", data := .seq items.toList.reverse.toArray } }) (hsz : items.size ≤ sizeLine) : wpAny (model prog w) A (getItem (.ref t) (.ref sl)) Q E s := by
  have fits : sizeOk (.seq items.toList.reverse.toArray) := by
    show items.toList.reverse.toArray.size ≤ sizeLine
    simpa using hsz
  obtain ⟨os, hos, hcs, hds⟩ := id hs
  have isSl : s.TypeIs (.ref sl) "slice" := ⟨os, hos, hcs⟩
  unfold getItem
  try with_reducible refine wpAny_holding ?_
  first | refine wpAny_bind (wpAny_pure ?_) | skip
  refine wpAny_bind (wpAny_sequenceKey ht.typeIs (by decide) ?_)
  refine wpAny_bind (wpAny_callSpecial?_slot (name := Str.ofString "__getitem__") ht.typeIs PyProof.Rows.slot_tuple_getitem (wpAny_call_entry PyProof.Rows.slot_tuple_getitem ht.typeIs entry_tuple_getitem ?_ (args_tuple_getitem _ _)))
  show wpAny _ _ (Builtin.Tuple.tupleItemsOf (.ref t) >>= _) _ _ s
  refine wpAny_bind (tupleItemsOf_ ht ?_)
  refine wpAny_bind (wpAny_typeOf isSl ?_)
  rw [if_pos (by decide)]
  refine wpAny_bind (sliced_rev hs ps ?_)
  show wpAny _ _ (if ((((items.size : Int) - 1) == 0 && (-1 : Int) == 1 && items.size == items.size) = true) then _ else _) _ _ s
  rw [if_neg (by simp)]
  rw [picked_rev]
  first
    | exact wpAny_bind (m := Builtin.Tuple.tupleExact _) (wpAny_newObj_type (wpAny_pure ⟨_, rfl, wpAny_pure h⟩) fits)
    | exact wpAny_bind (m := Builtin.Tuple.tupleExact _) (wpAny_newObj_type (wpAny_bind (wpAny_pure (wpAny_pure ⟨_, rfl, wpAny_pure h⟩))) fits)
    | exact wpAny_bind (wpAny_bind (m := Builtin.Tuple.tupleExact _) (wpAny_newObj_type (wpAny_pure (wpAny_pure ⟨_, rfl, wpAny_pure h⟩)) fits))
    | exact wpAny_bind (wpAny_bind (m := Builtin.Tuple.tupleExact _) (wpAny_newObj_type (wpAny_pure ⟨_, rfl, wpAny_pure h⟩) fits))
end

def tRevT (K : PySem.W.Frag) (te : TE) : TE := fun σ H Q => te σ H fun x H1 => ∃ a xs, x = .ref a ∧ SqT K H1 a xs ∧ ∀ p, H1 p = none → Q (.ref p) (upd H1 p (.tup xs.reverse))
open PySem.Spec PyProof.Rows in
theorem pe_revT {X : Cx} {e : Expr} {te : TE} {k : Nat} {p1 p2 p3 pos : Pos} (he : PE X e te) : PE X (.Subscript e (.Slice none none (some (.UnaryOp .USub (.Constant (.int 1) k p1) p2)) p3) pos) (tRevT X.K te) := by
  refine ⟨fun pins s σ H Q I h => ?_⟩
  refine Subscript_ (thn (he.run pins s σ H _ I h) fun v s1 ⟨x, H1, I1, r1, a, xs, ex, hx, q⟩ => ?_)
  subst ex
  cases r1
  have step : PO X (some (.UnaryOp .USub (.Constant (.int 1) k p1) p2)) (tPart (tUn (rU fun i => .int (-i)) (tC (.int 1)))) := po_some (pe_un un_neg pe_int)
  refine wpAny_Slice (thn (po_none.run pins s1 σ H1 (fun o G => o = none ∧ G = H1) I1 ⟨rfl, rfl⟩) fun vl s2 ⟨l, H2, I2, pl, el, e2⟩ => ?_)
  subst el e2
  refine thn (po_none.run pins s2 σ H2 (fun o G => o = none ∧ G = H2) I2 ⟨rfl, rfl⟩) fun vu s3 ⟨u, H3, I3, pu, eu, e3⟩ => ?_
  subst eu e3
  refine thn (step.run pins s3 σ H3 (fun o G => o = some (-1) ∧ G = H3) I3 ⟨1, rfl, -1, rfl, rfl, rfl⟩) fun vs s4 ⟨o, H4, I4, ps, eo, e4⟩ => ?_
  subst eo e4
  cases pl
  cases pu
  have I5 : Inv X pins σ H4 { s4 with heap := s4.heap.push { cls := .type "slice", data := .fields #[.none, .none, vs] } } := I4.kept (t' := s4.toks) fun b ob z => Heap.get?_push_of_some _ z
  obtain ⟨its, r, ht, hz⟩ := I5.tuple hx
  have n := r.length
  show wpAny (model X.prog X.w) X.A (subscriptTail e (.Slice none none (some (.UnaryOp .USub (.Constant (.int 1) k p1) p2)) p3) (.ref a) (.ref s4.heap.objs.size)) (EP X pins σ Q) X.xe { s4 with heap := s4.heap.push { cls := .type "slice", data := .fields #[.none, .none, vs] } }
  refine tail_any (ops := [.ref a, .ref s4.heap.objs.size]) ht.typeIs PyProof.Rows.slot_tuple_getitem.lookup ?_ (by with_unfolding_all rfl)
  refine getItem_tuple_rev ht (Heap.IsSliceOf.new _ .none .none vs) ps ?_ (by rw [List.size_toArray]; omega)
  refine ⟨.ref _, _, I5.laid (t' := s4.toks) (o := .tup xs.reverse) (fun b ob z => Heap.get?_push_of_some _ z) (Nat.le_refl _) ?_, rfl, q _ (I5.hok.fresh (Nat.le_refl _))⟩
  exact ⟨by rw [List.length_reverse]; exact hz, _, r.reverse, IsTup.new _ _⟩
def opRev : D → Option D
  | .list ds => some (.list ds.reverse)
  | .tuple ds => some (.tuple ds.reverse)
  | _ => none
theorem sv_rev {T : Type} {C : Ct T} {W : WX} {ta : TE} {fa : M T D} (ha : Sv C W ta fa) : Sv C W (fun σ H Q => tRevL C.K ta σ H Q ∨ tRevT C.K ta σ H Q) (mUn opRev fa) := by
  intro F0 H0 L s σ F H Q g h
  have h0 := po_bind h
  have bad : ∀ {r : Res T D} {G G' : D → S T → Hp → Hp → Prop}, (∀ a s', r ≠ .ok a s') → Po C W F0 H0 L F σ G r → Po C W F0 H0 L F σ G' r := fun {r G G'} hn z => by
    cases r with
    | ok a s' => exact absurd rfl (hn a s')
    | exc c s' => exact z
    | stuck => exact z
  cases e : fa s with
  | stuck => exact .inl (ha _ _ _ _ _ _ _ _ g (by rw [e] at h0 ⊢; exact bad (fun _ _ z => nomatch z) h0))
  | exc c s' => exact .inl (ha _ _ _ _ _ _ _ _ g (by rw [e] at h0 ⊢; exact bad (fun _ _ z => nomatch z) h0))
  | ok d s1 =>
    rw [e] at h0
    cases d with
    | list ds =>
      refine .inl (ha _ _ _ _ _ _ _ _ g ?_)
      rw [e]
      intro F1 H1 g1 e1 v rv
      have h1 := h0 F1 H1 g1 e1
      obtain ⟨x, q, h2⟩ := po_lift h1
      cases q
      cases rv with
      | lst hx r =>
        rename_i ad xs
        refine ⟨_, _, rfl, SqL.of (g1.sub.lst hx), fun p hp => ?_⟩
        have e2 := Same.updN (o := HO.lst xs.reverse) (g1.sub.nn hp)
        exact h2 _ _ (g1.allocF hp) e2 _ (.lst upd_same (r.reverse.mono e2))
    | tuple ds =>
      refine .inr (ha _ _ _ _ _ _ _ _ g ?_)
      rw [e]
      intro F1 H1 g1 e1 v rv
      have h1 := h0 F1 H1 g1 e1
      obtain ⟨x, q, h2⟩ := po_lift h1
      cases q
      cases rv with
      | tup hx r =>
        rename_i ad xs
        refine ⟨_, _, rfl, g1.sub.tup hx, fun p hp => ?_⟩
        have e2 := Same.updN (o := HO.tup xs.reverse) (g1.sub.nn hp)
        exact h2 _ _ (g1.allocF hp) e2 _ (.tup (.inl (.inl upd_same)) (r.reverse.mono e2))
    | _ =>
      refine .inl (ha _ _ _ _ _ _ _ _ g ?_)
      rw [e]
      intro F1 H1 g1 e1 v rv
      have h1 := h0 F1 H1 g1 e1
      obtain ⟨x, q, h2⟩ := po_lift h1
      cases q
theorem dv_rev {T : Type} {X : Cx} {C : Ct T} {W : WX} {k : Nat} {cls : Nat → Addr} {K : PySem.W.Frag} {a : Expr} {ta : TE} {fa : M T D} {bb : Bool} {j : Nat} {p1 p2 p3 pos : Pos} (q : CurB bb X C W k cls K) (ha : DV X C W a ta fa) :
    DV X C W (.Subscript a (.Slice none none (some (.UnaryOp .USub (.Constant (.int 1) j p1) p2)) p3) pos) (fun σ H Q => tRevL K ta σ H Q ∨ tRevT K ta σ H Q) (mUn opRev fa) :=
  ⟨by rw [← q.hX]; exact ⟨fun pins s σ H Q I h => h.elim (fun z => (pe_revL ha.pe).run pins s σ H Q I z) (fun z => (pe_revT ha.pe).run pins s σ H Q I z)⟩, by rw [← q.hK]; exact sv_rev ha.sv⟩
end Pm

set_option Elab.async false
set_option linter.all false
set_option maxRecDepth 100000
/-! Pure evaluation, call by value: each frame is a constant, so that simp sees no body before its state is there. -/
namespace Pm
open PySem L2 RZ
section
variable {T α β : Type}

def fB  (f : α → M T β) (r : Res T α) : Res T β := match r with
  | .ok a s => f a s
  | .exc c s => .exc c s
  | .stuck => .stuck
theorem fB_ok  (f : α → M T β) (a : α) (s : S T) : fB f (.ok a s) = f a s := rfl
theorem fB_ex  (f : α → M T β) (c : Nat) (s : S T) : fB f (.exc c s) = .exc c s := rfl
theorem e_bind (m : M T α) (f : α → M T β) (s : S T) : mBind m f s = fB f (m s) := rfl
theorem e_ret (a : α) (s : S T) : mRet a s = .ok a s := rfl
def lR (o : Option α) (s : S T) : Res T α := match o with
  | some a => .ok a s
  | none => .stuck
theorem lR_some (a : α) (s : S T) : lR (some a) s = .ok a s := rfl
theorem e_lift (o : Option α) (s : S T) : mLift o s = lR o s := rfl
def fOp2  (op : D → D → Option D) (x : D) (r : Res T D) : Res T D := match r with
  | .ok a s => lR (op x a) s
  | .exc c s => .exc c s
  | .stuck => .stuck
theorem fOp2_ok  (op : D → D → Option D) (x : D) (a : D) (s : S T) : fOp2 op x (.ok a s) = lR (op x a) s := rfl
theorem fOp2_ex  (op : D → D → Option D) (x : D) (c : Nat) (s : S T) : fOp2 op x (.exc c s) = .exc c s := rfl
def fOp1  (op : D → D → Option D) (fb : M T D) (r : Res T D) : Res T D := match r with
  | .ok a s => fOp2 op a (fb s)
  | .exc c s => .exc c s
  | .stuck => .stuck
theorem fOp1_ok  (op : D → D → Option D) (fb : M T D) (a : D) (s : S T) : fOp1 op fb (.ok a s) = fOp2 op a (fb s) := rfl
theorem fOp1_ex  (op : D → D → Option D) (fb : M T D) (c : Nat) (s : S T) : fOp1 op fb (.exc c s) = .exc c s := rfl
theorem e_op (op : D → D → Option D) (fa fb : M T D) (s : S T) : mOp op fa fb s = fOp1 op fb (fa s) := by
  show fB _ (fa s) = _
  cases fa s with
  | exc c s => rfl
  | stuck => rfl
  | ok a s =>
    show fB _ (fb s) = fOp2 op a (fb s)
    cases fb s <;> rfl
def fUn  (op : D → Option D) (r : Res T D) : Res T D := match r with
  | .ok a s => lR (op a) s
  | .exc c s => .exc c s
  | .stuck => .stuck
theorem fUn_ok  (op : D → Option D) (a : D) (s : S T) : fUn op (.ok a s) = lR (op a) s := rfl
theorem fUn_ex  (op : D → Option D) (c : Nat) (s : S T) : fUn op (.exc c s) = .exc c s := rfl
theorem e_un (op : D → Option D) (fa : M T D) (s : S T) : mUn op fa s = fUn op (fa s) := by
  show fB _ (fa s) = _
  cases fa s <;> rfl
def fCo2  (x : D) (r : Res T (List D)) : Res T (List D) := match r with
  | .ok a s => .ok (x :: a) s
  | .exc c s => .exc c s
  | .stuck => .stuck
theorem fCo2_ok  (x : D) (a : (List D)) (s : S T) : fCo2 x (.ok a s) = .ok (x :: a) s := rfl
theorem fCo2_ex  (x : D) (c : Nat) (s : S T) : fCo2 x (.exc c s) = .exc c s := rfl
def fCo1  (fr : M T (List D)) (r : Res T D) : Res T (List D) := match r with
  | .ok a s => fCo2 a (fr s)
  | .exc c s => .exc c s
  | .stuck => .stuck
theorem fCo1_ok  (fr : M T (List D)) (a : D) (s : S T) : fCo1 fr (.ok a s) = fCo2 a (fr s) := rfl
theorem fCo1_ex  (fr : M T (List D)) (c : Nat) (s : S T) : fCo1 fr (.exc c s) = .exc c s := rfl
theorem e_cons (fa : M T D) (fr : M T (List D)) (s : S T) : mCons fa fr s = fCo1 fr (fa s) := by
  show fB _ (fa s) = _
  cases fa s with
  | exc c s => rfl
  | stuck => rfl
  | ok a s =>
    show fB _ (fr s) = fCo2 a (fr s)
    cases fr s <;> rfl
def fAsB (r : Res T D) : Res T Bool := match r with
  | .ok (.bool b) s => .ok b s
  | .ok _ s => .stuck
  | .exc c s => .exc c s
  | .stuck => .stuck
theorem fAsB_ok (b : Bool) (s : S T) : fAsB (.ok (.bool b) s) = .ok b s := rfl
theorem fAsB_ex (c : Nat) (s : S T) : fAsB (.exc c s) = .exc c s := rfl
theorem e_B (f : M T D) (s : S T) : mB f s = fAsB (f s) := by
  show fB _ (f s) = _
  cases f s with
  | ok d s => cases d <;> rfl
  | exc c s => rfl
  | stuck => rfl
def fIf (a b : M T α) (r : Res T Bool) : Res T α := match r with
  | .ok true s => a s
  | .ok false s => b s
  | .exc c s => .exc c s
  | .stuck => .stuck
theorem fIf_t (a b : M T α) (s : S T) : fIf a b (.ok true s) = a s := rfl
theorem fIf_f (a b : M T α) (s : S T) : fIf a b (.ok false s) = b s := rfl
theorem fIf_ex (a b : M T α) (c : Nat) (s : S T) : fIf a b (.exc c s) = .exc c s := rfl
theorem fIf_b (a b : M T α) (k : Bool) (s : S T) : fIf a b (.ok k s) = if k = true then a s else b s := by cases k <;> rfl
theorem e_if (c : M T Bool) (a b : M T α) (s : S T) : mIf c a b s = fIf a b (c s) := by
  show fB _ (c s) = _
  cases c s with
  | ok k s => cases k <;> rfl
  | exc c s => rfl
  | stuck => rfl
def fNot (r : Res T Bool) : Res T Bool := match r with
  | .ok k s => .ok (!k) s
  | .exc c s => .exc c s
  | .stuck => .stuck
theorem fNot_ok (k : Bool) (s : S T) : fNot (.ok k s) = .ok (!k) s := rfl
theorem fNot_ex (c : Nat) (s : S T) : fNot (.exc c s) = .exc c s := rfl
theorem e_not (c : M T Bool) (s : S T) : mNot c s = fNot (c s) := by
  show fB _ (c s) = _
  cases c s <;> rfl
def fOfB (r : Res T Bool) : Res T D := match r with
  | .ok k s => .ok (.bool k) s
  | .exc c s => .exc c s
  | .stuck => .stuck
theorem fOfB_ok (k : Bool) (s : S T) : fOfB (.ok k s) = .ok (.bool k) s := rfl
theorem fOfB_ex (c : Nat) (s : S T) : fOfB (.exc c s) = .exc c s := rfl
theorem e_ofB (c : M T Bool) (s : S T) : mOfB c s = fOfB (c s) := by
  show fB _ (c s) = _
  cases c s <;> rfl
theorem e_and (a b : M T Bool) (s : S T) : mAnd a b s = fIf b (mRet false) (a s) := e_if _ _ _ s
theorem e_or (a b : M T Bool) (s : S T) : mOr a b s = fIf (mRet true) b (a s) := e_if _ _ _ s
def fAndV (b : M T D) (r : Res T D) : Res T D := match r with
  | .ok (.bool true) s => b s
  | .ok (.bool false) s => .ok (.bool false) s
  | .ok _ s => .stuck
  | .exc c s => .exc c s
  | .stuck => .stuck
theorem fAndV_t (b : M T D) (s : S T) : fAndV b (.ok (.bool true) s) = b s := rfl
theorem fAndV_f (b : M T D) (s : S T) : fAndV b (.ok (.bool false) s) = .ok (.bool false) s := rfl
theorem fAndV_ex (b : M T D) (c : Nat) (s : S T) : fAndV b (.exc c s) = .exc c s := rfl
theorem e_andV (a b : M T D) (s : S T) : mAndV a b s = fAndV b (a s) := by
  show mIf (mB a) b _ s = _
  rw [e_if, e_B]
  cases a s with
  | ok d s => cases d <;> first | rfl | (rename_i k; cases k <;> rfl)
  | exc c s => rfl
  | stuck => rfl
def fOrV (b : M T D) (r : Res T D) : Res T D := match r with
  | .ok (.bool false) s => b s
  | .ok (.bool true) s => .ok (.bool true) s
  | .ok _ s => .stuck
  | .exc c s => .exc c s
  | .stuck => .stuck
theorem fOrV_t (b : M T D) (s : S T) : fOrV b (.ok (.bool false) s) = b s := rfl
theorem fOrV_f (b : M T D) (s : S T) : fOrV b (.ok (.bool true) s) = .ok (.bool true) s := rfl
theorem fOrV_ex (b : M T D) (c : Nat) (s : S T) : fOrV b (.exc c s) = .exc c s := rfl
theorem e_orV (a b : M T D) (s : S T) : mOrV a b s = fOrV b (a s) := by
  show mIf (mB a) _ b s = _
  rw [e_if, e_B]
  cases a s with
  | ok d s => cases d <;> first | rfl | (rename_i k; cases k <;> rfl)
  | exc c s => rfl
  | stuck => rfl
def fVar (i : Nat) (s : S T) (x : Option Slot) : Res T D := match x with
  | some (.fz d) => .ok d s
  | some (.ol xs) => .ok (.list xs) ⟨s.env.set i (.fz (.list xs)), s.t⟩
  | some (.od kvs) => .ok (.dict kvs) ⟨s.env.set i (.fz (.dict kvs)), s.t⟩
  | _ => .stuck
theorem fVar_fz (i : Nat) (s : S T) (d : D) : fVar i s (some (.fz d)) = .ok d s := rfl
theorem fVar_ol (i : Nat) (e : List Slot) (t : T) (xs : List D) : fVar i ⟨e, t⟩ (some (.ol xs)) = .ok (.list xs) ⟨e.set i (.fz (.list xs)), t⟩ := rfl
theorem fVar_od (i : Nat) (e : List Slot) (t : T) (xs : List (D × D)) : fVar i ⟨e, t⟩ (some (.od xs)) = .ok (.dict xs) ⟨e.set i (.fz (.dict xs)), t⟩ := rfl
theorem e_var (i : Nat) (e : List Slot) (t : T) : mVar i ⟨e, t⟩ = fVar i ⟨e, t⟩ e[i]? := rfl
def fPk (s : S T) (x : Option Slot) : Res T D := match x with
  | some x => (match peek x with | some d => .ok d s | none => .stuck)
  | none => .stuck
theorem fPk_fz (s : S T) (d : D) : fPk s (some (.fz d)) = .ok d s := rfl
theorem fPk_ol (s : S T) (xs : List D) : fPk s (some (.ol xs)) = .ok (.list xs) s := rfl
theorem fPk_od (s : S T) (xs : List (D × D)) : fPk s (some (.od xs)) = .ok (.dict xs) s := rfl
theorem e_slotD (i : Nat) (e : List Slot) (t : T) : slotD i ⟨e, t⟩ = fPk ⟨e, t⟩ e[i]? := rfl
def fOpP3  (op : D → D → Option D) (y : D) (r : Res T D) : Res T D := match r with
  | .ok a s => lR (op a y) s
  | .exc c s => .exc c s
  | .stuck => .stuck
theorem fOpP3_ok  (op : D → D → Option D) (y : D) (a : D) (s : S T) : fOpP3 op y (.ok a s) = lR (op a y) s := rfl
theorem fOpP3_ex  (op : D → D → Option D) (y : D) (c : Nat) (s : S T) : fOpP3 op y (.exc c s) = .exc c s := rfl
def fOpP2  (op : D → D → Option D) (i : Nat) (r : Res T D) : Res T D := match r with
  | .ok a s => fOpP3 op a (slotD i s)
  | .exc c s => .exc c s
  | .stuck => .stuck
theorem fOpP2_ok  (op : D → D → Option D) (i : Nat) (a : D) (s : S T) : fOpP2 op i (.ok a s) = fOpP3 op a (slotD i s) := rfl
theorem fOpP2_ex  (op : D → D → Option D) (i : Nat) (c : Nat) (s : S T) : fOpP2 op i (.exc c s) = .exc c s := rfl
def fOpP1  (op : D → D → Option D) (i : Nat) (fb : M T D) (r : Res T D) : Res T D := match r with
  | .ok a s => fOpP2 op i (fb s)
  | .exc c s => .exc c s
  | .stuck => .stuck
theorem fOpP1_ok  (op : D → D → Option D) (i : Nat) (fb : M T D) (a : D) (s : S T) : fOpP1 op i fb (.ok a s) = fOpP2 op i (fb s) := rfl
theorem fOpP1_ex  (op : D → D → Option D) (i : Nat) (fb : M T D) (c : Nat) (s : S T) : fOpP1 op i fb (.exc c s) = .exc c s := rfl
theorem e_opP (op : D → D → Option D) (i : Nat) (fb : M T D) (s : S T) : mOpP op i fb s = fOpP1 op i fb (slotD i s) := by
  show fB _ (slotD i s) = _
  cases slotD i s with
  | exc c s => rfl
  | stuck => rfl
  | ok a s =>
    show fB _ (fb s) = fOpP2 op i (fb s)
    cases fb s with
    | exc c s => rfl
    | stuck => rfl
    | ok b s =>
      show fB _ (slotD i s) = fOpP3 op b (slotD i s)
      cases slotD i s <;> rfl
theorem e_unP (op : D → Option D) (i : Nat) (s : S T) : mUnP op i s = fUn op (slotD i s) := by
  show fB _ (slotD i s) = _
  cases slotD i s <;> rfl
def fLiB (o : Option D) (s : S T) : Res T Bool := match o with
  | some (.bool b) => .ok b s
  | _ => .stuck
theorem fLiB_s (b : Bool) (s : S T) : fLiB (some (.bool b)) s = .ok b s := rfl
def fCh2  (op : D → D → Option D) (op' : D → D → Option D) (fc : M T D) (x : D) (r : Res T D) : Res T D := match r with
  | .ok a s => fIf (mBind fc fun c => mLift (op' a c)) (mRet (.bool false)) (fLiB (op x a) s)
  | .exc c s => .exc c s
  | .stuck => .stuck
theorem fCh2_ok  (op : D → D → Option D) (op' : D → D → Option D) (fc : M T D) (x : D) (a : D) (s : S T) : fCh2 op op' fc x (.ok a s) = fIf (mBind fc fun c => mLift (op' a c)) (mRet (.bool false)) (fLiB (op x a) s) := rfl
theorem fCh2_ex  (op : D → D → Option D) (op' : D → D → Option D) (fc : M T D) (x : D) (c : Nat) (s : S T) : fCh2 op op' fc x (.exc c s) = .exc c s := rfl
def fCh1  (op : D → D → Option D) (op' : D → D → Option D) (fb : M T D) (fc : M T D) (r : Res T D) : Res T D := match r with
  | .ok a s => fCh2 op op' fc a (fb s)
  | .exc c s => .exc c s
  | .stuck => .stuck
theorem fCh1_ok  (op : D → D → Option D) (op' : D → D → Option D) (fb : M T D) (fc : M T D) (a : D) (s : S T) : fCh1 op op' fb fc (.ok a s) = fCh2 op op' fc a (fb s) := rfl
theorem fCh1_ex  (op : D → D → Option D) (op' : D → D → Option D) (fb : M T D) (fc : M T D) (c : Nat) (s : S T) : fCh1 op op' fb fc (.exc c s) = .exc c s := rfl
theorem e_chain (op op' : D → D → Option D) (fa fb fc : M T D) (s : S T) : mChain op op' fa fb fc s = fCh1 op op' fb fc (fa s) := by
  show fB _ (fa s) = _
  cases fa s with
  | exc c s => rfl
  | stuck => rfl
  | ok a s =>
    show fB _ (fb s) = fCh2 op op' fc a (fb s)
    cases fb s with
    | exc c s => rfl
    | stuck => rfl
    | ok b s =>
      show mIf (mB (mLift (op a b))) _ _ s = _
      rw [e_if]
      show _ = fIf _ _ (fLiB (op a b) s)
      rw [e_B, e_lift]
      cases op a b with
      | none => rfl
      | some d => cases d <;> rfl
def fTup (r : Res T (List D)) : Res T D := match r with
  | .ok xs s => if xs.length ≤ 1000000 then .ok (.tuple xs) s else .stuck
  | .exc c s => .exc c s
  | .stuck => .stuck
theorem fTup_ex (c : Nat) (s : S T) : fTup (.exc c s) = .exc c s := rfl
def fLst (r : Res T (List D)) : Res T Slot := match r with
  | .ok xs s => if xs.length ≤ 1000000 then .ok (.ol xs) s else .stuck
  | .exc c s => .exc c s
  | .stuck => .stuck
theorem fLst_ex (c : Nat) (s : S T) : fLst (.exc c s) = .exc c s := rfl
theorem fTup_of (xs : List D) (s : S T) (h : xs.length ≤ 1000000) : fTup (.ok xs s) = .ok (.tuple xs) s := by unfold fTup; exact if_pos h
theorem fLst_of (xs : List D) (s : S T) (h : xs.length ≤ 1000000) : fLst (.ok xs s) = .ok (.ol xs) s := by unfold fLst; exact if_pos h
theorem fTup_0 (s : S T) : fTup (.ok [] s) = .ok (.tuple []) s := fTup_of _ _ (by simp)
theorem fLst_0 (s : S T) : fLst (.ok [] s) = .ok (.ol []) s := fLst_of _ _ (by simp)
theorem fTup_1 (x0 : D) (s : S T) : fTup (.ok [x0] s) = .ok (.tuple [x0]) s := fTup_of _ _ (by simp)
theorem fLst_1 (x0 : D) (s : S T) : fLst (.ok [x0] s) = .ok (.ol [x0]) s := fLst_of _ _ (by simp)
theorem fTup_2 (x0 x1 : D) (s : S T) : fTup (.ok [x0, x1] s) = .ok (.tuple [x0, x1]) s := fTup_of _ _ (by simp)
theorem fLst_2 (x0 x1 : D) (s : S T) : fLst (.ok [x0, x1] s) = .ok (.ol [x0, x1]) s := fLst_of _ _ (by simp)
theorem fTup_3 (x0 x1 x2 : D) (s : S T) : fTup (.ok [x0, x1, x2] s) = .ok (.tuple [x0, x1, x2]) s := fTup_of _ _ (by simp)
theorem fLst_3 (x0 x1 x2 : D) (s : S T) : fLst (.ok [x0, x1, x2] s) = .ok (.ol [x0, x1, x2]) s := fLst_of _ _ (by simp)
theorem fTup_4 (x0 x1 x2 x3 : D) (s : S T) : fTup (.ok [x0, x1, x2, x3] s) = .ok (.tuple [x0, x1, x2, x3]) s := fTup_of _ _ (by simp)
theorem fLst_4 (x0 x1 x2 x3 : D) (s : S T) : fLst (.ok [x0, x1, x2, x3] s) = .ok (.ol [x0, x1, x2, x3]) s := fLst_of _ _ (by simp)
theorem fTup_5 (x0 x1 x2 x3 x4 : D) (s : S T) : fTup (.ok [x0, x1, x2, x3, x4] s) = .ok (.tuple [x0, x1, x2, x3, x4]) s := fTup_of _ _ (by simp)
theorem fLst_5 (x0 x1 x2 x3 x4 : D) (s : S T) : fLst (.ok [x0, x1, x2, x3, x4] s) = .ok (.ol [x0, x1, x2, x3, x4]) s := fLst_of _ _ (by simp)
theorem fTup_6 (x0 x1 x2 x3 x4 x5 : D) (s : S T) : fTup (.ok [x0, x1, x2, x3, x4, x5] s) = .ok (.tuple [x0, x1, x2, x3, x4, x5]) s := fTup_of _ _ (by simp)
theorem fLst_6 (x0 x1 x2 x3 x4 x5 : D) (s : S T) : fLst (.ok [x0, x1, x2, x3, x4, x5] s) = .ok (.ol [x0, x1, x2, x3, x4, x5]) s := fLst_of _ _ (by simp)
theorem fTup_7 (x0 x1 x2 x3 x4 x5 x6 : D) (s : S T) : fTup (.ok [x0, x1, x2, x3, x4, x5, x6] s) = .ok (.tuple [x0, x1, x2, x3, x4, x5, x6]) s := fTup_of _ _ (by simp)
theorem fLst_7 (x0 x1 x2 x3 x4 x5 x6 : D) (s : S T) : fLst (.ok [x0, x1, x2, x3, x4, x5, x6] s) = .ok (.ol [x0, x1, x2, x3, x4, x5, x6]) s := fLst_of _ _ (by simp)
theorem fTup_8 (x0 x1 x2 x3 x4 x5 x6 x7 : D) (s : S T) : fTup (.ok [x0, x1, x2, x3, x4, x5, x6, x7] s) = .ok (.tuple [x0, x1, x2, x3, x4, x5, x6, x7]) s := fTup_of _ _ (by simp)
theorem fLst_8 (x0 x1 x2 x3 x4 x5 x6 x7 : D) (s : S T) : fLst (.ok [x0, x1, x2, x3, x4, x5, x6, x7] s) = .ok (.ol [x0, x1, x2, x3, x4, x5, x6, x7]) s := fLst_of _ _ (by simp)
theorem fTup_9 (x0 x1 x2 x3 x4 x5 x6 x7 x8 : D) (s : S T) : fTup (.ok [x0, x1, x2, x3, x4, x5, x6, x7, x8] s) = .ok (.tuple [x0, x1, x2, x3, x4, x5, x6, x7, x8]) s := fTup_of _ _ (by simp)
theorem fLst_9 (x0 x1 x2 x3 x4 x5 x6 x7 x8 : D) (s : S T) : fLst (.ok [x0, x1, x2, x3, x4, x5, x6, x7, x8] s) = .ok (.ol [x0, x1, x2, x3, x4, x5, x6, x7, x8]) s := fLst_of _ _ (by simp)
theorem fTup_10 (x0 x1 x2 x3 x4 x5 x6 x7 x8 x9 : D) (s : S T) : fTup (.ok [x0, x1, x2, x3, x4, x5, x6, x7, x8, x9] s) = .ok (.tuple [x0, x1, x2, x3, x4, x5, x6, x7, x8, x9]) s := fTup_of _ _ (by simp)
theorem fLst_10 (x0 x1 x2 x3 x4 x5 x6 x7 x8 x9 : D) (s : S T) : fLst (.ok [x0, x1, x2, x3, x4, x5, x6, x7, x8, x9] s) = .ok (.ol [x0, x1, x2, x3, x4, x5, x6, x7, x8, x9]) s := fLst_of _ _ (by simp)
theorem fTup_11 (x0 x1 x2 x3 x4 x5 x6 x7 x8 x9 x10 : D) (s : S T) : fTup (.ok [x0, x1, x2, x3, x4, x5, x6, x7, x8, x9, x10] s) = .ok (.tuple [x0, x1, x2, x3, x4, x5, x6, x7, x8, x9, x10]) s := fTup_of _ _ (by simp)
theorem fLst_11 (x0 x1 x2 x3 x4 x5 x6 x7 x8 x9 x10 : D) (s : S T) : fLst (.ok [x0, x1, x2, x3, x4, x5, x6, x7, x8, x9, x10] s) = .ok (.ol [x0, x1, x2, x3, x4, x5, x6, x7, x8, x9, x10]) s := fLst_of _ _ (by simp)
theorem fTup_12 (x0 x1 x2 x3 x4 x5 x6 x7 x8 x9 x10 x11 : D) (s : S T) : fTup (.ok [x0, x1, x2, x3, x4, x5, x6, x7, x8, x9, x10, x11] s) = .ok (.tuple [x0, x1, x2, x3, x4, x5, x6, x7, x8, x9, x10, x11]) s := fTup_of _ _ (by simp)
theorem fLst_12 (x0 x1 x2 x3 x4 x5 x6 x7 x8 x9 x10 x11 : D) (s : S T) : fLst (.ok [x0, x1, x2, x3, x4, x5, x6, x7, x8, x9, x10, x11] s) = .ok (.ol [x0, x1, x2, x3, x4, x5, x6, x7, x8, x9, x10, x11]) s := fLst_of _ _ (by simp)
theorem e_tup (fr : M T (List D)) (s : S T) : mTup fr s = fTup (fr s) := by
  show fB _ (fr s) = _
  cases fr s with
  | exc c s => rfl
  | stuck => rfl
  | ok xs s =>
    show mLift (if _ then _ else _) s = if _ then _ else _
    split <;> rfl
theorem e_lst (fr : M T (List D)) (s : S T) : mLst fr s = fLst (fr s) := by
  show fB _ (fr s) = _
  cases fr s with
  | exc c s => rfl
  | stuck => rfl
  | ok xs s =>
    show mLift (if _ then _ else _) s = if _ then _ else _
    split <;> rfl
def fFrz (r : Res T Slot) : Res T D := match r with
  | .ok x s => lR (frz x) s
  | .exc c s => .exc c s
  | .stuck => .stuck
theorem fFrz_fz (d : D) (s : S T) : fFrz (.ok (.fz d) s) = .ok d s := rfl
theorem fFrz_ol (xs : List D) (s : S T) : fFrz (.ok (.ol xs) s) = .ok (.list xs) s := rfl
theorem fFrz_od (xs : List (D × D)) (s : S T) : fFrz (.ok (.od xs) s) = .ok (.dict xs) s := rfl
theorem fFrz_ex (c : Nat) (s : S T) : fFrz (.exc c s) = .exc c s := rfl
theorem e_frz (f : M T Slot) (s : S T) : mFrz f s = fFrz (f s) := by
  show fB _ (f s) = _
  cases f s <;> rfl
def fFz (r : Res T D) : Res T Slot := match r with
  | .ok d s => .ok (.fz d) s
  | .exc c s => .exc c s
  | .stuck => .stuck
theorem fFz_ok (d : D) (s : S T) : fFz (.ok d s) = .ok (.fz d) s := rfl
theorem fFz_ex (c : Nat) (s : S T) : fFz (.exc c s) = .exc c s := rfl
theorem e_fz (f : M T D) (s : S T) : mFz f s = fFz (f s) := by
  show fB _ (f s) = _
  cases f s <;> rfl
def cP (s : S T) (r : Rp) : Res T D := match r with
  | .ok d => .ok d s
  | .exc c => .exc c s
  | .stuck => .stuck
theorem cP_ok (d : D) (s : S T) : cP s (.ok d) = .ok d s := rfl
theorem cP_ex (c : Nat) (s : S T) : cP s (.exc c) = .exc c s := rfl
def fCall  (f : List D → Rp) (r : Res T (List D)) : Res T D := match r with
  | .ok a s => cP s (f a)
  | .exc c s => .exc c s
  | .stuck => .stuck
theorem fCall_ok  (f : List D → Rp) (a : (List D)) (s : S T) : fCall f (.ok a s) = cP s (f a) := rfl
theorem fCall_ex  (f : List D → Rp) (c : Nat) (s : S T) : fCall f (.exc c s) = .exc c s := rfl
theorem e_call (f : List D → Rp) (fr : M T (List D)) (s : S T) : mCall f fr s = fCall f (fr s) := by
  show fB _ (fr s) = _
  cases fr s with
  | exc c s => rfl
  | stuck => rfl
  | ok ds s =>
    show (match f ds with | .ok d => _ | .exc c => _ | .stuck => _) = cP s (f ds)
    cases f ds <;> rfl
def cT (e : List Slot) (r : Rt T) : Res T D := match r with
  | .ok d t => .ok d ⟨e, t⟩
  | .exc c t => .exc c ⟨e, t⟩
  | .stuck => .stuck
theorem cT_ok (d : D) (t : T) (e : List Slot) : cT e (.ok d t) = .ok d ⟨e, t⟩ := rfl
theorem cT_ex (c : Nat) (t : T) (e : List Slot) : cT e (.exc c t) = .exc c ⟨e, t⟩ := rfl
def fCallT (g : List Slot → T → Rt T) (r : Res T (List Slot)) : Res T D := match r with
  | .ok xs s => if xs.all argOk = true then cT s.env (g xs s.t) else .stuck
  | .exc c s => .exc c s
  | .stuck => .stuck
theorem fCallT_0 (g : List Slot → T → Rt T) (i j : Nat) (e : List Slot) (t : T) : fCallT g (.ok [.pt i, .pt j] ⟨e, t⟩) = cT e (g [.pt i, .pt j] t) := rfl
theorem fCallT_1 (g : List Slot → T → Rt T) (i j : Nat) (x0 : D) (e : List Slot) (t : T) : fCallT g (.ok [.pt i, .pt j, .fz x0] ⟨e, t⟩) = cT e (g [.pt i, .pt j, .fz x0] t) := rfl
theorem fCallT_2 (g : List Slot → T → Rt T) (i j : Nat) (x0 x1 : D) (e : List Slot) (t : T) : fCallT g (.ok [.pt i, .pt j, .fz x0, .fz x1] ⟨e, t⟩) = cT e (g [.pt i, .pt j, .fz x0, .fz x1] t) := rfl
theorem fCallT_3 (g : List Slot → T → Rt T) (i j : Nat) (x0 x1 x2 : D) (e : List Slot) (t : T) : fCallT g (.ok [.pt i, .pt j, .fz x0, .fz x1, .fz x2] ⟨e, t⟩) = cT e (g [.pt i, .pt j, .fz x0, .fz x1, .fz x2] t) := rfl
theorem fCallT_4 (g : List Slot → T → Rt T) (i j : Nat) (x0 x1 x2 x3 : D) (e : List Slot) (t : T) : fCallT g (.ok [.pt i, .pt j, .fz x0, .fz x1, .fz x2, .fz x3] ⟨e, t⟩) = cT e (g [.pt i, .pt j, .fz x0, .fz x1, .fz x2, .fz x3] t) := rfl
theorem fCallT_5 (g : List Slot → T → Rt T) (i j : Nat) (x0 x1 x2 x3 x4 : D) (e : List Slot) (t : T) : fCallT g (.ok [.pt i, .pt j, .fz x0, .fz x1, .fz x2, .fz x3, .fz x4] ⟨e, t⟩) = cT e (g [.pt i, .pt j, .fz x0, .fz x1, .fz x2, .fz x3, .fz x4] t) := rfl
theorem fCallT_6 (g : List Slot → T → Rt T) (i j : Nat) (x0 x1 x2 x3 x4 x5 : D) (e : List Slot) (t : T) : fCallT g (.ok [.pt i, .pt j, .fz x0, .fz x1, .fz x2, .fz x3, .fz x4, .fz x5] ⟨e, t⟩) = cT e (g [.pt i, .pt j, .fz x0, .fz x1, .fz x2, .fz x3, .fz x4, .fz x5] t) := rfl
theorem fCallT_7 (g : List Slot → T → Rt T) (i j : Nat) (x0 x1 x2 x3 x4 x5 x6 : D) (e : List Slot) (t : T) : fCallT g (.ok [.pt i, .pt j, .fz x0, .fz x1, .fz x2, .fz x3, .fz x4, .fz x5, .fz x6] ⟨e, t⟩) = cT e (g [.pt i, .pt j, .fz x0, .fz x1, .fz x2, .fz x3, .fz x4, .fz x5, .fz x6] t) := rfl
theorem fCallT_ex (g : List Slot → T → Rt T) (c : Nat) (s : S T) : fCallT g (.exc c s) = .exc c s := rfl
theorem e_callT (g : List Slot → T → Rt T) (fr : M T (List Slot)) (s : S T) : mCallT g fr s = fCallT g (fr s) := by
  show fB _ (fr s) = _
  cases fr s with
  | exc c s => rfl
  | stuck => rfl
  | ok xs s =>
    show (if _ then _ else _) = if _ then _ else _
    split
    · unfold cT; cases g xs s.t <;> rfl
    · rfl
def fPt (s : S T) (x : Option Slot) : Res T Slot := match x with
  | some (.pt n) => .ok (.pt n) s
  | _ => .stuck
theorem fPt_pt (n : Nat) (s : S T) : fPt s (some (.pt n)) = .ok (.pt n) s := rfl
theorem e_pt (i : Nat) (e : List Slot) (t : T) : mPt i ⟨e, t⟩ = fPt ⟨e, t⟩ e[i]? := rfl
def fSome (r : Res T D) : Res T (Option Int) := match r with
  | .ok (.int i) s => .ok (some i) s
  | .ok _ s => .stuck
  | .exc c s => .exc c s
  | .stuck => .stuck
theorem fSome_ok (i : Int) (s : S T) : fSome (.ok (.int i) s) = .ok (some i) s := rfl
theorem e_some (f : M T D) (s : S T) : mSome f s = fSome (f s) := by
  show fB _ (f s) = _
  cases f s with
  | exc c s => rfl
  | stuck => rfl
  | ok d s => cases d <;> rfl
def fSl3  (x : D) (l : Option Int) (r : Res T (Option Int)) : Res T D := match r with
  | .ok a s => lR (opSl x l a) s
  | .exc c s => .exc c s
  | .stuck => .stuck
theorem fSl3_ok  (x : D) (l : Option Int) (a : (Option Int)) (s : S T) : fSl3 x l (.ok a s) = lR (opSl x l a) s := rfl
theorem fSl3_ex  (x : D) (l : Option Int) (c : Nat) (s : S T) : fSl3 x l (.exc c s) = .exc c s := rfl
def fSl2  (x : D) (fh : M T (Option Int)) (r : Res T (Option Int)) : Res T D := match r with
  | .ok a s => fSl3 x a (fh s)
  | .exc c s => .exc c s
  | .stuck => .stuck
theorem fSl2_ok  (x : D) (fh : M T (Option Int)) (a : (Option Int)) (s : S T) : fSl2 x fh (.ok a s) = fSl3 x a (fh s) := rfl
theorem fSl2_ex  (x : D) (fh : M T (Option Int)) (c : Nat) (s : S T) : fSl2 x fh (.exc c s) = .exc c s := rfl
def fSl1  (fl : M T (Option Int)) (fh : M T (Option Int)) (r : Res T D) : Res T D := match r with
  | .ok a s => fSl2 a fh (fl s)
  | .exc c s => .exc c s
  | .stuck => .stuck
theorem fSl1_ok  (fl : M T (Option Int)) (fh : M T (Option Int)) (a : D) (s : S T) : fSl1 fl fh (.ok a s) = fSl2 a fh (fl s) := rfl
theorem fSl1_ex  (fl : M T (Option Int)) (fh : M T (Option Int)) (c : Nat) (s : S T) : fSl1 fl fh (.exc c s) = .exc c s := rfl
theorem e_sl (fa : M T D) (fl fh : M T (Option Int)) (s : S T) : mSl fa fl fh s = fSl1 fl fh (fa s) := by
  show fB _ (fa s) = _
  cases fa s with
  | exc c s => rfl
  | stuck => rfl
  | ok a s =>
    show fB _ (fl s) = fSl2 a fh (fl s)
    cases fl s with
    | exc c s => rfl
    | stuck => rfl
    | ok b s =>
      show fB _ (fh s) = fSl3 a b (fh s)
      cases fh s <;> rfl
def fIsi  (ty : Ty) (r : Res T D) : Res T D := match r with
  | .ok a s => .ok (.bool (isTy ty a)) s
  | .exc c s => .exc c s
  | .stuck => .stuck
theorem fIsi_ok  (ty : Ty) (a : D) (s : S T) : fIsi ty (.ok a s) = .ok (.bool (isTy ty a)) s := rfl
theorem fIsi_ex  (ty : Ty) (c : Nat) (s : S T) : fIsi ty (.exc c s) = .exc c s := rfl
theorem e_isi (ty : Ty) (f : M T D) (s : S T) : mIsi ty f s = fIsi ty (f s) := by
  show fB _ (f s) = _
  cases f s <;> rfl
def fTru (r : Res T D) : Res T Bool := match r with
  | .ok d s => lR (truthD d) s
  | .exc c s => .exc c s
  | .stuck => .stuck
theorem fTru_b (b : Bool) (s : S T) : fTru (.ok (.bool b) s) = .ok b s := rfl
theorem fTru_i (i : Int) (s : S T) : fTru (.ok (.int i) s) = .ok (i != 0) s := rfl
theorem fTru_l (xs : List D) (s : S T) : fTru (.ok (.list xs) s) = .ok (!xs.isEmpty) s := rfl
theorem fTru_n (s : S T) : fTru (.ok .none s) = .ok false s := rfl
theorem fTru_ex (c : Nat) (s : S T) : fTru (.exc c s) = .exc c s := rfl
theorem e_truth (f : M T D) (s : S T) : mTruth f s = fTru (f s) := by
  show fB _ (f s) = _
  cases f s <;> rfl
theorem e_sNil (s : S T) : (mSNil : M T (List Slot)) s = .ok [] s := rfl
def fSc2  (x : Slot) (r : Res T (List Slot)) : Res T (List Slot) := match r with
  | .ok a s => .ok (x :: a) s
  | .exc c s => .exc c s
  | .stuck => .stuck
theorem fSc2_ok  (x : Slot) (a : (List Slot)) (s : S T) : fSc2 x (.ok a s) = .ok (x :: a) s := rfl
theorem fSc2_ex  (x : Slot) (c : Nat) (s : S T) : fSc2 x (.exc c s) = .exc c s := rfl
def fSc1  (fr : M T (List Slot)) (r : Res T Slot) : Res T (List Slot) := match r with
  | .ok a s => fSc2 a (fr s)
  | .exc c s => .exc c s
  | .stuck => .stuck
theorem fSc1_ok  (fr : M T (List Slot)) (a : Slot) (s : S T) : fSc1 fr (.ok a s) = fSc2 a (fr s) := rfl
theorem fSc1_ex  (fr : M T (List Slot)) (c : Nat) (s : S T) : fSc1 fr (.exc c s) = .exc c s := rfl
theorem e_sCons (f : M T Slot) (fr : M T (List Slot)) (s : S T) : mSCons f fr s = fSc1 fr (f s) := by
  show fB _ (f s) = _
  cases f s with
  | exc c s => rfl
  | stuck => rfl
  | ok a s =>
    show fB _ (fr s) = fSc2 a (fr s)
    cases fr s <;> rfl
def fBlk (r : Res T α) : Res T α := match r with
  | .ok a s => .ok a s
  | _ => .stuck
theorem fBlk_ok (a : α) (s : S T) : fBlk (.ok a s) = .ok a s := rfl
theorem e_blk (m : M T α) (s : S T) : mBlk m s = fBlk (m s) := rfl
def fSeq (g : M T Out) (r : Res T Out) : Res T Out := match r with
  | .ok .nx s => g s
  | .ok o s => .ok o s
  | .exc c s => .exc c s
  | .stuck => .stuck
theorem fSeq_nx (g : M T Out) (s : S T) : fSeq g (.ok .nx s) = g s := rfl
theorem fSeq_bk (g : M T Out) (s : S T) : fSeq g (.ok .bk s) = .ok .bk s := rfl
theorem fSeq_ct (g : M T Out) (s : S T) : fSeq g (.ok .ct s) = .ok .ct s := rfl
theorem fSeq_rt (g : M T Out) (d : D) (s : S T) : fSeq g (.ok (.ret d) s) = .ok (.ret d) s := rfl
theorem fSeq_ex (g : M T Out) (c : Nat) (s : S T) : fSeq g (.exc c s) = .exc c s := rfl
theorem e_seq (f g : M T Out) (s : S T) : mSeq f g s = fSeq g (f s) := by
  rw [mSeq_ap]
  unfold fSeq
  cases f s with
  | ok o s => cases o <;> rfl
  | exc c s => rfl
  | stuck => rfl
def fRet   (r : Res T D) : Res T Out := match r with
  | .ok a s => .ok (.ret a) s
  | .exc c s => .exc c s
  | .stuck => .stuck
theorem fRet_ok   (a : D) (s : S T) : fRet  (.ok a s) = .ok (.ret a) s := rfl
theorem fRet_ex   (c : Nat) (s : S T) : fRet  (.exc c s) = .exc c s := rfl
theorem e_return (f : M T D) (s : S T) : mReturn f s = fRet (f s) := by
  show fB _ (f s) = _
  cases f s <;> rfl
def fExp   (r : Res T D) : Res T Out := match r with
  | .ok a s => .ok .nx s
  | .exc c s => .exc c s
  | .stuck => .stuck
theorem fExp_ok   (a : D) (s : S T) : fExp  (.ok a s) = .ok .nx s := rfl
theorem fExp_ex   (c : Nat) (s : S T) : fExp  (.exc c s) = .exc c s := rfl
theorem e_expr (f : M T D) (s : S T) : mExpr f s = fExp (f s) := by
  show fB _ (f s) = _
  cases f s <;> rfl
def fSet (i : Nat) (r : Res T Slot) : Res T Out := match r with
  | .ok x s => .ok .nx ⟨s.env.set i x, s.t⟩
  | .exc c s => .exc c s
  | .stuck => .stuck
theorem fSet_ok (i : Nat) (x : Slot) (e : List Slot) (t : T) : fSet i (.ok x ⟨e, t⟩) = .ok .nx ⟨e.set i x, t⟩ := rfl
theorem fSet_ex (i : Nat) (c : Nat) (s : S T) : fSet i (.exc c s) = .exc c s := rfl
theorem e_set (i : Nat) (f : M T Slot) (s : S T) : mSet i f s = fSet i (f s) := by
  show fB _ (f s) = _
  cases f s <;> rfl
def fNx (r : Res T Unit) : Res T Out := match r with
  | .ok _ s => .ok .nx s
  | .exc c s => .exc c s
  | .stuck => .stuck
theorem fNx_ok (s : S T) (u : Unit) : fNx (.ok u s) = .ok .nx s := rfl
def fSetG  (p : D → M T Unit) (r : Res T D) : Res T Out := match r with
  | .ok a s => fNx (fBlk (p a s))
  | .exc c s => .exc c s
  | .stuck => .stuck
theorem fSetG_ok  (p : D → M T Unit) (a : D) (s : S T) : fSetG p (.ok a s) = fNx (fBlk (p a s)) := rfl
theorem fSetG_ex  (p : D → M T Unit) (c : Nat) (s : S T) : fSetG p (.exc c s) = .exc c s := rfl
theorem e_setG (p : D → M T Unit) (f : M T D) (s : S T) : mSetG p f s = fSetG p (f s) := by
  show fB _ (f s) = _
  cases f s with
  | exc c s => rfl
  | stuck => rfl
  | ok d s =>
    show fB _ (fBlk (p d s)) = fNx (fBlk (p d s))
    cases fBlk (p d s) <;> rfl
def fSets (is : List Nat) (r : Res T (List Slot)) : Res T Out := match r with
  | .ok xs s => if xs.length = is.length ∧ xs.length ≤ 1000 then .ok .nx ⟨(is.zip xs).foldl (fun e p => e.set p.1 p.2) s.env, s.t⟩ else .stuck
  | .exc c s => .exc c s
  | .stuck => .stuck
theorem fSets_2 (i0 i1 : Nat) (x0 x1 : Slot) (e : List Slot) (t : T) : fSets [i0, i1] (.ok [x0, x1] ⟨e, t⟩) = .ok .nx ⟨((e.set i0 x0).set i1 x1), t⟩ := by unfold fSets; exact if_pos ⟨rfl, by simp⟩
theorem fSets_3 (i0 i1 i2 : Nat) (x0 x1 x2 : Slot) (e : List Slot) (t : T) : fSets [i0, i1, i2] (.ok [x0, x1, x2] ⟨e, t⟩) = .ok .nx ⟨(((e.set i0 x0).set i1 x1).set i2 x2), t⟩ := by unfold fSets; exact if_pos ⟨rfl, by simp⟩
theorem fSets_4 (i0 i1 i2 i3 : Nat) (x0 x1 x2 x3 : Slot) (e : List Slot) (t : T) : fSets [i0, i1, i2, i3] (.ok [x0, x1, x2, x3] ⟨e, t⟩) = .ok .nx ⟨((((e.set i0 x0).set i1 x1).set i2 x2).set i3 x3), t⟩ := by unfold fSets; exact if_pos ⟨rfl, by simp⟩
theorem fSets_5 (i0 i1 i2 i3 i4 : Nat) (x0 x1 x2 x3 x4 : Slot) (e : List Slot) (t : T) : fSets [i0, i1, i2, i3, i4] (.ok [x0, x1, x2, x3, x4] ⟨e, t⟩) = .ok .nx ⟨(((((e.set i0 x0).set i1 x1).set i2 x2).set i3 x3).set i4 x4), t⟩ := by unfold fSets; exact if_pos ⟨rfl, by simp⟩
theorem fSets_6 (i0 i1 i2 i3 i4 i5 : Nat) (x0 x1 x2 x3 x4 x5 : Slot) (e : List Slot) (t : T) : fSets [i0, i1, i2, i3, i4, i5] (.ok [x0, x1, x2, x3, x4, x5] ⟨e, t⟩) = .ok .nx ⟨((((((e.set i0 x0).set i1 x1).set i2 x2).set i3 x3).set i4 x4).set i5 x5), t⟩ := by unfold fSets; exact if_pos ⟨rfl, by simp⟩
theorem fSets_7 (i0 i1 i2 i3 i4 i5 i6 : Nat) (x0 x1 x2 x3 x4 x5 x6 : Slot) (e : List Slot) (t : T) : fSets [i0, i1, i2, i3, i4, i5, i6] (.ok [x0, x1, x2, x3, x4, x5, x6] ⟨e, t⟩) = .ok .nx ⟨(((((((e.set i0 x0).set i1 x1).set i2 x2).set i3 x3).set i4 x4).set i5 x5).set i6 x6), t⟩ := by unfold fSets; exact if_pos ⟨rfl, by simp⟩
theorem fSets_ex (is : List Nat) (c : Nat) (s : S T) : fSets is (.exc c s) = .exc c s := rfl
theorem e_sets (f : M T (List Slot)) (is : List Nat) (s : S T) : mSets f is s = fSets is (f s) := by
  show fB _ (f s) = _
  cases f s <;> rfl
def fFor (p : D → M T Unit) (fb : M T Out) (r : Res T (List D)) : Res T Out := match r with
  | .ok xs s => mForL (fun d => mBind (mBlk (p d)) fun _ => fb) xs s
  | .exc c s => .exc c s
  | .stuck => .stuck
theorem fFor_ok (p : D → M T Unit) (fb : M T Out) (xs : List D) (s : S T) : fFor p fb (.ok xs s) = mForL (fun d => mBind (mBlk (p d)) fun _ => fb) xs s := rfl
theorem fFor_ex (p : D → M T Unit) (fb : M T Out) (c : Nat) (s : S T) : fFor p fb (.exc c s) = .exc c s := rfl
theorem e_for (fi : M T (List D)) (p : D → M T Unit) (fb : M T Out) (s : S T) : mFor fi p fb s = fFor p fb (fi s) := by
  show fB _ (fi s) = _
  cases fi s <;> rfl
def fLoop (g : M T Out) (r : Res T Out) : Res T Out := match r with
  | .ok .nx s => g s
  | .ok .ct s => g s
  | .ok .bk s => .ok .nx s
  | .ok (.ret v) s => .ok (.ret v) s
  | .exc c s => .exc c s
  | .stuck => .stuck
theorem fLoop_nx (g : M T Out) (s : S T) : fLoop g (.ok .nx s) = g s := rfl
theorem fLoop_ct (g : M T Out) (s : S T) : fLoop g (.ok .ct s) = g s := rfl
theorem fLoop_bk (g : M T Out) (s : S T) : fLoop g (.ok .bk s) = .ok .nx s := rfl
theorem fLoop_rt (g : M T Out) (d : D) (s : S T) : fLoop g (.ok (.ret d) s) = .ok (.ret d) s := rfl
theorem fLoop_ex (g : M T Out) (c : Nat) (s : S T) : fLoop g (.exc c s) = .exc c s := rfl
theorem e_forN (f : D → M T Out) (s : S T) : mForL f [] s = .ok .nx s := rfl
theorem e_forC (f : D → M T Out) (d : D) (ds : List D) (s : S T) : mForL f (d :: ds) s = fLoop (mForL f ds) (f d s) := by
  show fB _ (f d s) = _
  unfold fB fLoop
  cases f d s with
  | ok o s => cases o <;> rfl
  | exc c s => rfl
  | stuck => rfl
theorem e_while0 (c : M T Bool) (b : M T Out) (s : S T) : mWhileN c b 0 s = .stuck := rfl
theorem e_whileS (c : M T Bool) (b : M T Out) (n : Nat) (s : S T) : mWhileN c b (n + 1) s = fIf (fun s1 => fLoop (mWhileN c b n) (b s1)) (mRet .nx) (c s) := by
  show fB _ (c s) = _
  unfold fB fIf
  cases c s with
  | ok k s =>
    cases k
    · rfl
    · show fB _ (b s) = fLoop _ (b s)
      unfold fB fLoop
      cases b s with
      | ok o s => cases o <;> rfl
      | exc c s => rfl
      | stuck => rfl
  | exc c s => rfl
  | stuck => rfl
def fAug2  (i : Nat) (op : D → D → Option D) (x : D) (r : Res T D) : Res T Out := match r with
  | .ok a s => fSet i (fFz (lR (op x a) s))
  | .exc c s => .exc c s
  | .stuck => .stuck
theorem fAug2_ok  (i : Nat) (op : D → D → Option D) (x : D) (a : D) (s : S T) : fAug2 i op x (.ok a s) = fSet i (fFz (lR (op x a) s)) := rfl
theorem fAug2_ex  (i : Nat) (op : D → D → Option D) (x : D) (c : Nat) (s : S T) : fAug2 i op x (.exc c s) = .exc c s := rfl
def fAug1  (i : Nat) (op : D → D → Option D) (f : M T D) (r : Res T D) : Res T Out := match r with
  | .ok a s => fAug2 i op a (f s)
  | .exc c s => .exc c s
  | .stuck => .stuck
theorem fAug1_ok  (i : Nat) (op : D → D → Option D) (f : M T D) (a : D) (s : S T) : fAug1 i op f (.ok a s) = fAug2 i op a (f s) := rfl
theorem fAug1_ex  (i : Nat) (op : D → D → Option D) (f : M T D) (c : Nat) (s : S T) : fAug1 i op f (.exc c s) = .exc c s := rfl
theorem e_aug (i : Nat) (op : D → D → Option D) (f : M T D) (s : S T) : mAug i op f s = fAug1 i op f (mVar i s) := by
  show fB _ (fB _ (mVar i s)) = _
  cases mVar i s with
  | exc c s => rfl
  | stuck => rfl
  | ok a s =>
    show fB _ (fB _ (f s)) = fAug2 i op a (f s)
    cases f s with
    | exc c s => rfl
    | stuck => rfl
    | ok b s =>
      show fB _ (lR (op a b) s) = fSet i (fFz (lR (op a b) s))
      cases op a b <;> rfl
def fApp2 (i : Nat) (d : D) (s : S T) (x : Option Slot) : Res T D := match x with
  | some (.ol xs) => if xs.length < lim then .ok .none ⟨s.env.set i (.ol (xs ++ [d])), s.t⟩ else .stuck
  | _ => .stuck
theorem fApp2_of (i : Nat) (d : D) (e : List Slot) (t : T) (xs : List D) (h : xs.length < lim) : fApp2 i d ⟨e, t⟩ (some (.ol xs)) = .ok .none ⟨e.set i (.ol (xs ++ [d])), t⟩ := if_pos h
def fApp1 (i : Nat) (r : Res T D) : Res T D := match r with
  | .ok d s => fApp2 i d s s.env[i]?
  | .exc c s => .exc c s
  | .stuck => .stuck
theorem fApp1_ok (i : Nat) (d : D) (e : List Slot) (t : T) : fApp1 i (.ok d ⟨e, t⟩) = fApp2 i d ⟨e, t⟩ e[i]? := rfl
theorem fApp1_ex (i : Nat) (c : Nat) (s : S T) : fApp1 i (.exc c s) = .exc c s := rfl
def fApp0 (i : Nat) (fa : M T D) (s : S T) (x : Option Slot) : Res T D := match x with
  | some (.ol _) => fApp1 i (fa s)
  | _ => .stuck
theorem fApp0_ol (i : Nat) (fa : M T D) (s : S T) (xs : List D) : fApp0 i fa s (some (.ol xs)) = fApp1 i (fa s) := rfl
theorem e_append (i : Nat) (fa : M T D) (e : List Slot) (t : T) : mAppend i fa ⟨e, t⟩ = fApp0 i fa ⟨e, t⟩ e[i]? := by
  unfold mAppend fApp0
  dsimp only
  cases e[i]? with
  | none => rfl
  | some x =>
    cases x with
    | ol xs =>
      show fB _ (fa ⟨e, t⟩) = fApp1 i (fa ⟨e, t⟩)
      cases fa ⟨e, t⟩ <;> rfl
    | _ => rfl
def fExt2 (i : Nat) (d : D) (s : S T) (x : Option Slot) : Res T D := match x, d with
  | some (.ol xs), .list ys => if xs.length + ys.length ≤ lim then .ok .none ⟨s.env.set i (.ol (xs ++ ys)), s.t⟩ else .stuck
  | _, _ => .stuck
theorem fExt2_of (i : Nat) (e : List Slot) (t : T) (xs ys : List D) (h : xs.length + ys.length ≤ lim) : fExt2 i (.list ys) ⟨e, t⟩ (some (.ol xs)) = .ok .none ⟨e.set i (.ol (xs ++ ys)), t⟩ := if_pos h
def fExt1 (i : Nat) (r : Res T D) : Res T D := match r with
  | .ok d s => fExt2 i d s s.env[i]?
  | .exc c s => .exc c s
  | .stuck => .stuck
theorem fExt1_ok (i : Nat) (d : D) (e : List Slot) (t : T) : fExt1 i (.ok d ⟨e, t⟩) = fExt2 i d ⟨e, t⟩ e[i]? := rfl
theorem fExt1_ex (i : Nat) (c : Nat) (s : S T) : fExt1 i (.exc c s) = .exc c s := rfl
def fExt0 (i : Nat) (fa : M T D) (s : S T) (x : Option Slot) : Res T D := match x with
  | some (.ol _) => fExt1 i (fa s)
  | _ => .stuck
theorem fExt0_ol (i : Nat) (fa : M T D) (s : S T) (xs : List D) : fExt0 i fa s (some (.ol xs)) = fExt1 i (fa s) := rfl
theorem e_extend (i : Nat) (fa : M T D) (e : List Slot) (t : T) : mExtend i fa ⟨e, t⟩ = fExt0 i fa ⟨e, t⟩ e[i]? := by
  unfold mExtend fExt0
  dsimp only
  cases e[i]? with
  | none => rfl
  | some x =>
    cases x with
    | ol xs =>
      show fB _ (fa ⟨e, t⟩) = fExt1 i (fa ⟨e, t⟩)
      cases fa ⟨e, t⟩ with
      | ok d s => cases d <;> rfl
      | exc c s => rfl
      | stuck => rfl
    | _ => rfl
def fIter (r : Res T D) : Res T (List D) := match r with
  | .ok d s => lR (asSeq d) s
  | .exc c s => .exc c s
  | .stuck => .stuck
theorem fIter_l (xs : List D) (s : S T) : fIter (.ok (.list xs) s) = .ok xs s := rfl
theorem fIter_t (xs : List D) (s : S T) : fIter (.ok (.tuple xs) s) = .ok xs s := rfl
theorem fIter_s (z : Str) (s : S T) : fIter (.ok (.str z) s) = .ok (z.cps.toList.map fun c => .str ⟨#[c]⟩) s := rfl
theorem fIter_ex (c : Nat) (s : S T) : fIter (.exc c s) = .exc c s := rfl
theorem e_iter (f : M T D) (s : S T) : mIter f s = fIter (f s) := by
  show fB _ (f s) = _
  cases f s <;> rfl
def fZip2 (x : D) (r : Res T D) : Res T (List D) := match r with
  | .ok y s => (match x, y with
    | .list xs, .list ys => .ok (zipD xs ys) s
    | .tuple xs, .tuple ys => .ok (zipD xs ys) s
    | _, _ => .stuck)
  | .exc c s => .exc c s
  | .stuck => .stuck
theorem fZip2_l (xs ys : List D) (s : S T) : fZip2 (.list xs) (.ok (.list ys) s) = .ok (zipD xs ys) s := rfl
theorem fZip2_t (xs ys : List D) (s : S T) : fZip2 (.tuple xs) (.ok (.tuple ys) s) = .ok (zipD xs ys) s := rfl
def fZip1 (fb : M T D) (r : Res T D) : Res T (List D) := match r with
  | .ok d s => fZip2 d (fb s)
  | .exc c s => .exc c s
  | .stuck => .stuck
theorem fZip1_ok (fb : M T D) (d : D) (s : S T) : fZip1 fb (.ok d s) = fZip2 d (fb s) := rfl
theorem e_zip (fa fb : M T D) (s : S T) : mZip fa fb s = fZip1 fb (fa s) := by
  show fB _ (fa s) = _
  cases fa s with
  | exc c s => rfl
  | stuck => rfl
  | ok a s =>
    show fB _ (fb s) = fZip2 a (fb s)
    cases fb s with
    | exc c s => rfl
    | stuck => rfl
    | ok b s => cases a <;> cases b <;> rfl
def fEnum (r : Res T D) : Res T (List D) := match r with
  | .ok (.list xs) s => .ok (enumD 0 xs) s
  | .ok _ s => .stuck
  | .exc c s => .exc c s
  | .stuck => .stuck
theorem fEnum_l (xs : List D) (s : S T) : fEnum (.ok (.list xs) s) = .ok (enumD 0 xs) s := rfl
theorem e_enum (f : M T D) (s : S T) : mEnum f s = fEnum (f s) := by
  show fB _ (f s) = _
  cases f s with
  | exc c s => rfl
  | stuck => rfl
  | ok d s => cases d <;> rfl
def fRng1 (r : Res T D) : Res T (List D) := match r with
  | .ok (.int j) s => if -(2 ^ 62) ≤ j ∧ j < 2 ^ 62 then .ok (rangeL 0 j) s else .stuck
  | .ok _ s => .stuck
  | .exc c s => .exc c s
  | .stuck => .stuck
theorem fRng1_of (j : Int) (s : S T) (h : -(2 ^ 62) ≤ j ∧ j < 2 ^ 62) : fRng1 (.ok (.int j) s) = .ok (rangeL 0 j) s := if_pos h
theorem e_rng1 (f : M T D) (s : S T) : mRange1 f s = fRng1 (f s) := by
  show fB _ (f s) = _
  cases f s with
  | exc c s => rfl
  | stuck => rfl
  | ok d s =>
    cases d with
    | int j => show mLift (if _ then _ else _) s = if _ then _ else _; split <;> rfl
    | _ => rfl
def fRng22 (i : D) (r : Res T D) : Res T (List D) := match r with
  | .ok y s => (match i, y with
    | .int i, .int j => if -(2 ^ 62) ≤ i ∧ i < 2 ^ 62 ∧ -(2 ^ 62) ≤ j ∧ j < 2 ^ 62 then .ok (rangeL i j) s else .stuck
    | _, _ => .stuck)
  | .exc c s => .exc c s
  | .stuck => .stuck
theorem fRng22_of (i j : Int) (s : S T) (h : -(2 ^ 62) ≤ i ∧ i < 2 ^ 62 ∧ -(2 ^ 62) ≤ j ∧ j < 2 ^ 62) : fRng22 (.int i) (.ok (.int j) s) = .ok (rangeL i j) s := if_pos h
def fRng21 (fb : M T D) (r : Res T D) : Res T (List D) := match r with
  | .ok d s => fRng22 d (fb s)
  | .exc c s => .exc c s
  | .stuck => .stuck
theorem fRng21_ok (fb : M T D) (d : D) (s : S T) : fRng21 fb (.ok d s) = fRng22 d (fb s) := rfl
theorem e_rng2 (fa fb : M T D) (s : S T) : mRange2 fa fb s = fRng21 fb (fa s) := by
  show fB _ (fa s) = _
  cases fa s with
  | exc c s => rfl
  | stuck => rfl
  | ok a s =>
    show fB _ (fb s) = fRng22 a (fb s)
    cases fb s with
    | exc c s => rfl
    | stuck => rfl
    | ok b s =>
      cases a with
      | int i =>
        cases b with
        | int j => show mLift (if _ then _ else _) s = if _ then _ else _; split <;> rfl
        | _ => rfl
      | _ => rfl
theorem e_pName (i : Nat) (d : D) (e : List Slot) (t : T) : pName i d ⟨e, t⟩ = .ok () ⟨e.set i (.fz d), t⟩ := rfl
theorem e_pNil (s : S T) : pNil [] s = .ok () s := rfl
def fPc  (ps : List D → M T Unit) (ds : List D) (r : Res T Unit) : Res T Unit := match r with
  | .ok a s => ps ds s
  | .exc c s => .exc c s
  | .stuck => .stuck
theorem fPc_ok  (ps : List D → M T Unit) (ds : List D) (a : Unit) (s : S T) : fPc ps ds (.ok a s) = ps ds s := rfl
theorem fPc_ex  (ps : List D → M T Unit) (ds : List D) (c : Nat) (s : S T) : fPc ps ds (.exc c s) = .exc c s := rfl
theorem e_pCons (p : D → M T Unit) (ps : List D → M T Unit) (d : D) (ds : List D) (s : S T) : pCons p ps (d :: ds) s = fPc ps ds (p d s) := by
  show fB _ (p d s) = _
  cases p d s <;> rfl
theorem e_pTup2 (ps : List D → M T Unit) (x0 x1 : D) (s : S T) : pTup 2 ps (.tuple [x0, x1]) s = ps [x0, x1] s := rfl
theorem e_pTupL2 (ps : List D → M T Unit) (x0 x1 : D) (s : S T) : pTup 2 ps (.list [x0, x1]) s = ps [x0, x1] s := rfl
theorem e_pTup3 (ps : List D → M T Unit) (x0 x1 x2 : D) (s : S T) : pTup 3 ps (.tuple [x0, x1, x2]) s = ps [x0, x1, x2] s := rfl
theorem e_pTupL3 (ps : List D → M T Unit) (x0 x1 x2 : D) (s : S T) : pTup 3 ps (.list [x0, x1, x2]) s = ps [x0, x1, x2] s := rfl
theorem e_pTup4 (ps : List D → M T Unit) (x0 x1 x2 x3 : D) (s : S T) : pTup 4 ps (.tuple [x0, x1, x2, x3]) s = ps [x0, x1, x2, x3] s := rfl
theorem e_pTupL4 (ps : List D → M T Unit) (x0 x1 x2 x3 : D) (s : S T) : pTup 4 ps (.list [x0, x1, x2, x3]) s = ps [x0, x1, x2, x3] s := rfl
theorem e_pTup5 (ps : List D → M T Unit) (x0 x1 x2 x3 x4 : D) (s : S T) : pTup 5 ps (.tuple [x0, x1, x2, x3, x4]) s = ps [x0, x1, x2, x3, x4] s := rfl
theorem e_pTupL5 (ps : List D → M T Unit) (x0 x1 x2 x3 x4 : D) (s : S T) : pTup 5 ps (.list [x0, x1, x2, x3, x4]) s = ps [x0, x1, x2, x3, x4] s := rfl
theorem e_raise (c : Nat) (s : S T) : (mRaise c : M T Out) s = .exc c s := rfl
def fGet3 (kvs : List (D × D)) (k : D) (r : Res T D) : Res T D := match r with
  | .ok x s => lR (getOr kvs k x) s
  | .exc c s => .exc c s
  | .stuck => .stuck
theorem fGet3_ok (kvs : List (D × D)) (k x : D) (s : S T) : fGet3 kvs k (.ok x s) = lR (getOr kvs k x) s := rfl
def fGet2 (kvs : List (D × D)) (fx : M T D) (r : Res T D) : Res T D := match r with
  | .ok k s => fGet3 kvs k (fx s)
  | .exc c s => .exc c s
  | .stuck => .stuck
theorem fGet2_ok (kvs : List (D × D)) (fx : M T D) (k : D) (s : S T) : fGet2 kvs fx (.ok k s) = fGet3 kvs k (fx s) := rfl
def fGet1 (fk fx : M T D) (r : Res T D) : Res T D := match r with
  | .ok (.dict kvs) s => fGet2 kvs fx (fk s)
  | .ok _ s => .stuck
  | .exc c s => .exc c s
  | .stuck => .stuck
theorem fGet1_ok (fk fx : M T D) (kvs : List (D × D)) (s : S T) : fGet1 fk fx (.ok (.dict kvs) s) = fGet2 kvs fx (fk s) := rfl
theorem e_get (fa fk fx : M T D) (s : S T) : mGet fa fk fx s = fGet1 fk fx (fa s) := by
  show fB _ (fa s) = _
  cases fa s with
  | exc c s => rfl
  | stuck => rfl
  | ok a s =>
    cases a with
    | dict kvs =>
      show fB _ (fk s) = fGet2 kvs fx (fk s)
      cases fk s with
      | exc c s => rfl
      | stuck => rfl
      | ok k s =>
        show fB _ (fx s) = fGet3 kvs k (fx s)
        cases fx s <;> rfl
    | _ => rfl
def fDp2 (i : Nat) (v k : D) (s : S T) (x : Option Slot) : Res T Out := match x, keyOf k with
  | some (.od kvs), some k => if kvs.length < lim then .ok .nx ⟨s.env.set i (.od (putD kvs k v)), s.t⟩ else .stuck
  | _, _ => .stuck
theorem fDp2_s (i : Nat) (v : D) (k : Str) (e : List Slot) (t : T) (kvs : List (D × D)) (h : kvs.length < lim) : fDp2 i v (.str k) ⟨e, t⟩ (some (.od kvs)) = .ok .nx ⟨e.set i (.od (putD kvs (.inr k) v)), t⟩ := if_pos h
theorem fDp2_i (i : Nat) (v : D) (k : Int) (e : List Slot) (t : T) (kvs : List (D × D)) (h : kvs.length < lim) : fDp2 i v (.int k) ⟨e, t⟩ (some (.od kvs)) = .ok .nx ⟨e.set i (.od (putD kvs (.inl k) v)), t⟩ := if_pos h
def fDp1 (i : Nat) (v : D) (r : Res T D) : Res T Out := match r with
  | .ok k s => fDp2 i v k s s.env[i]?
  | .exc c s => .exc c s
  | .stuck => .stuck
theorem fDp1_ok (i : Nat) (v k : D) (e : List Slot) (t : T) : fDp1 i v (.ok k ⟨e, t⟩) = fDp2 i v k ⟨e, t⟩ e[i]? := rfl
def fDp0 (i : Nat) (fk : M T D) (v : D) (s : S T) (x : Option Slot) : Res T Out := match x with
  | some (.od _) => fDp1 i v (fk s)
  | _ => .stuck
theorem fDp0_od (i : Nat) (fk : M T D) (v : D) (s : S T) (kvs : List (D × D)) : fDp0 i fk v s (some (.od kvs)) = fDp1 i v (fk s) := rfl
def fDp (i : Nat) (fk : M T D) (r : Res T D) : Res T Out := match r with
  | .ok v s => fDp0 i fk v s s.env[i]?
  | .exc c s => .exc c s
  | .stuck => .stuck
theorem fDp_ok (i : Nat) (fk : M T D) (v : D) (e : List Slot) (t : T) : fDp i fk (.ok v ⟨e, t⟩) = fDp0 i fk v ⟨e, t⟩ e[i]? := rfl
theorem fDp_ex (i : Nat) (fk : M T D) (c : Nat) (s : S T) : fDp i fk (.exc c s) = .exc c s := rfl
theorem e_dput (i : Nat) (fk fv : M T D) (s : S T) : mDPut i fk fv s = fDp i fk (fv s) := by
  show fB _ (fv s) = _
  cases fv s with
  | exc c s => rfl
  | stuck => rfl
  | ok v s =>
    unfold fB fDp fDp0
    dsimp only
    cases s.env[i]? with
    | none => rfl
    | some x =>
      cases x with
      | od kvs =>
        show fB _ (fk s) = fDp1 i v (fk s)
        cases fk s with
        | exc c s => rfl
        | stuck => rfl
        | ok k s =>
          show (match s.env[i]?, keyOf k with | some (.od kvs), some k' => _ | _, _ => _) = fDp2 i v k s s.env[i]?
          unfold fDp2
          cases s.env[i]? with
          | none => cases keyOf k <;> rfl
          | some x => cases x <;> cases keyOf k <;> rfl
      | _ => rfl
def fLc2 (vs : List Nat) (old : List Slot) (r : Res T (List D)) : Res T Slot := match r with
  | .ok acc s => .ok (.ol acc) ⟨restE old s.env vs, s.t⟩
  | _ => .stuck
theorem fLc2_ok (vs : List Nat) (old : List Slot) (acc : List D) (e : List Slot) (t : T) : fLc2 vs old (.ok acc ⟨e, t⟩) = .ok (.ol acc) ⟨restE old e vs, t⟩ := rfl
def fLc1 (vs : List Nat) (p : D → M T Unit) (ft : M T Bool) (fe : M T D) (r : Res T (List D)) : Res T Slot := match r with
  | .ok items s => if (okW s.env vs && decide (items.length ≤ lim)) = true then fLc2 vs s.env (mLcL vs (mTurn p ft fe) items [] ⟨wipeE s.env vs, s.t⟩) else .stuck
  | .exc c s => .exc c s
  | .stuck => .stuck
theorem fLc1_of (vs : List Nat) (p : D → M T Unit) (ft : M T Bool) (fe : M T D) (items : List D) (e : List Slot) (t : T) (h1 : okW e vs = true) (h2 : items.length ≤ lim) : fLc1 vs p ft fe (.ok items ⟨e, t⟩) = fLc2 vs e (mLcL vs (mTurn p ft fe) items [] ⟨wipeE e vs, t⟩) := by show (if (okW e vs && decide (items.length ≤ lim)) = true then _ else _) = _; rw [h1, decide_eq_true h2]; rfl
theorem fLc1_ex (vs : List Nat) (p : D → M T Unit) (ft : M T Bool) (fe : M T D) (c : Nat) (s : S T) : fLc1 vs p ft fe (.exc c s) = .exc c s := rfl
theorem e_lc (vs : List Nat) (fi : M T (List D)) (p : D → M T Unit) (ft : M T Bool) (fe : M T D) (s : S T) : mLc vs fi p ft fe s = fLc1 vs p ft fe (fi s) := by
  show fB _ (fi s) = _
  cases fi s with
  | exc c s => rfl
  | stuck => rfl
  | ok items s =>
    show (if (okW s.env vs && decide (items.length ≤ lim)) = true then _ else _) = if (okW s.env vs && decide (items.length ≤ lim)) = true then _ else _
    split
    · unfold fLc2
      cases mLcL vs (mTurn p ft fe) items [] ⟨wipeE s.env vs, s.t⟩ <;> rfl
    · rfl
theorem e_lcN (vs : List Nat) (f : D → M T (Option D)) (acc : List D) (s : S T) : mLcL vs f [] acc s = .ok acc s := rfl
def fLcL (vs : List Nat) (f : D → M T (Option D)) (ds acc : List D) (r : Res T (Option D)) : Res T (List D) := match r with
  | .ok o s => mLcL vs f ds (addO acc o) ⟨wipeE s.env vs, s.t⟩
  | .exc c s => .exc c s
  | .stuck => .stuck
theorem fLcL_s (vs : List Nat) (f : D → M T (Option D)) (ds acc : List D) (d : D) (e : List Slot) (t : T) : fLcL vs f ds acc (.ok (some d) ⟨e, t⟩) = mLcL vs f ds (acc ++ [d]) ⟨wipeE e vs, t⟩ := rfl
theorem fLcL_n (vs : List Nat) (f : D → M T (Option D)) (ds acc : List D) (e : List Slot) (t : T) : fLcL vs f ds acc (.ok none ⟨e, t⟩) = mLcL vs f ds acc ⟨wipeE e vs, t⟩ := rfl
theorem e_lcC (vs : List Nat) (f : D → M T (Option D)) (acc : List D) (d : D) (ds : List D) (s : S T) : mLcL vs f (d :: ds) acc s = fLcL vs f ds acc (f d s) := by
  show fB _ (f d s) = _
  cases f d s <;> rfl
def fTo (r : Res T D) : Res T (Option D) := match r with
  | .ok d s => .ok (some d) s
  | .exc c s => .exc c s
  | .stuck => .stuck
theorem fTo_ok (d : D) (s : S T) : fTo (.ok d s) = .ok (some d) s := rfl
def fTi (fe : M T D) (r : Res T Bool) : Res T (Option D) := match r with
  | .ok true s => fTo (fe s)
  | .ok false s => .ok none s
  | .exc c s => .exc c s
  | .stuck => .stuck
theorem fTi_t (fe : M T D) (s : S T) : fTi fe (.ok true s) = fTo (fe s) := rfl
theorem fTi_f (fe : M T D) (s : S T) : fTi fe (.ok false s) = .ok none s := rfl
def fTp (ft : M T Bool) (fe : M T D) (r : Res T Unit) : Res T (Option D) := match r with
  | .ok _ s => fTi fe (ft s)
  | .exc c s => .exc c s
  | .stuck => .stuck
theorem fTp_ok (ft : M T Bool) (fe : M T D) (u : Unit) (s : S T) : fTp ft fe (.ok u s) = fTi fe (ft s) := rfl
theorem e_turn (p : D → M T Unit) (ft : M T Bool) (fe : M T D) (d : D) (s : S T) : mTurn p ft fe d s = fBlk (fTp ft fe (p d s)) := by
  show fBlk (fB _ (p d s)) = _
  congr 1
  cases p d s with
  | exc c s => rfl
  | stuck => rfl
  | ok u s =>
    show fB _ (ft s) = fTi fe (ft s)
    cases ft s with
    | exc c s => rfl
    | stuck => rfl
    | ok k s =>
      cases k
      · rfl
      · show fB _ (fe s) = fTo (fe s)
        cases fe s <;> rfl
end
theorem gt_0 (x0 : Slot) (r : List Slot) : (x0 :: r)[0]? = some x0 := rfl
theorem st_0 (x0 y : Slot) (r : List Slot) : (x0 :: r).set 0 y = y :: r := rfl
theorem gD_0 (x0 y : Slot) (r : List Slot) : (x0 :: r).getD 0 y = x0 := rfl
theorem gt_1 (x0 x1 : Slot) (r : List Slot) : (x0 :: x1 :: r)[1]? = some x1 := rfl
theorem st_1 (x0 x1 y : Slot) (r : List Slot) : (x0 :: x1 :: r).set 1 y = x0 :: y :: r := rfl
theorem gD_1 (x0 x1 y : Slot) (r : List Slot) : (x0 :: x1 :: r).getD 1 y = x1 := rfl
theorem gt_2 (x0 x1 x2 : Slot) (r : List Slot) : (x0 :: x1 :: x2 :: r)[2]? = some x2 := rfl
theorem st_2 (x0 x1 x2 y : Slot) (r : List Slot) : (x0 :: x1 :: x2 :: r).set 2 y = x0 :: x1 :: y :: r := rfl
theorem gD_2 (x0 x1 x2 y : Slot) (r : List Slot) : (x0 :: x1 :: x2 :: r).getD 2 y = x2 := rfl
theorem gt_3 (x0 x1 x2 x3 : Slot) (r : List Slot) : (x0 :: x1 :: x2 :: x3 :: r)[3]? = some x3 := rfl
theorem st_3 (x0 x1 x2 x3 y : Slot) (r : List Slot) : (x0 :: x1 :: x2 :: x3 :: r).set 3 y = x0 :: x1 :: x2 :: y :: r := rfl
theorem gD_3 (x0 x1 x2 x3 y : Slot) (r : List Slot) : (x0 :: x1 :: x2 :: x3 :: r).getD 3 y = x3 := rfl
theorem gt_4 (x0 x1 x2 x3 x4 : Slot) (r : List Slot) : (x0 :: x1 :: x2 :: x3 :: x4 :: r)[4]? = some x4 := rfl
theorem st_4 (x0 x1 x2 x3 x4 y : Slot) (r : List Slot) : (x0 :: x1 :: x2 :: x3 :: x4 :: r).set 4 y = x0 :: x1 :: x2 :: x3 :: y :: r := rfl
theorem gD_4 (x0 x1 x2 x3 x4 y : Slot) (r : List Slot) : (x0 :: x1 :: x2 :: x3 :: x4 :: r).getD 4 y = x4 := rfl
theorem gt_5 (x0 x1 x2 x3 x4 x5 : Slot) (r : List Slot) : (x0 :: x1 :: x2 :: x3 :: x4 :: x5 :: r)[5]? = some x5 := rfl
theorem st_5 (x0 x1 x2 x3 x4 x5 y : Slot) (r : List Slot) : (x0 :: x1 :: x2 :: x3 :: x4 :: x5 :: r).set 5 y = x0 :: x1 :: x2 :: x3 :: x4 :: y :: r := rfl
theorem gD_5 (x0 x1 x2 x3 x4 x5 y : Slot) (r : List Slot) : (x0 :: x1 :: x2 :: x3 :: x4 :: x5 :: r).getD 5 y = x5 := rfl
theorem gt_6 (x0 x1 x2 x3 x4 x5 x6 : Slot) (r : List Slot) : (x0 :: x1 :: x2 :: x3 :: x4 :: x5 :: x6 :: r)[6]? = some x6 := rfl
theorem st_6 (x0 x1 x2 x3 x4 x5 x6 y : Slot) (r : List Slot) : (x0 :: x1 :: x2 :: x3 :: x4 :: x5 :: x6 :: r).set 6 y = x0 :: x1 :: x2 :: x3 :: x4 :: x5 :: y :: r := rfl
theorem gD_6 (x0 x1 x2 x3 x4 x5 x6 y : Slot) (r : List Slot) : (x0 :: x1 :: x2 :: x3 :: x4 :: x5 :: x6 :: r).getD 6 y = x6 := rfl
theorem gt_7 (x0 x1 x2 x3 x4 x5 x6 x7 : Slot) (r : List Slot) : (x0 :: x1 :: x2 :: x3 :: x4 :: x5 :: x6 :: x7 :: r)[7]? = some x7 := rfl
theorem st_7 (x0 x1 x2 x3 x4 x5 x6 x7 y : Slot) (r : List Slot) : (x0 :: x1 :: x2 :: x3 :: x4 :: x5 :: x6 :: x7 :: r).set 7 y = x0 :: x1 :: x2 :: x3 :: x4 :: x5 :: x6 :: y :: r := rfl
theorem gD_7 (x0 x1 x2 x3 x4 x5 x6 x7 y : Slot) (r : List Slot) : (x0 :: x1 :: x2 :: x3 :: x4 :: x5 :: x6 :: x7 :: r).getD 7 y = x7 := rfl
theorem gt_8 (x0 x1 x2 x3 x4 x5 x6 x7 x8 : Slot) (r : List Slot) : (x0 :: x1 :: x2 :: x3 :: x4 :: x5 :: x6 :: x7 :: x8 :: r)[8]? = some x8 := rfl
theorem st_8 (x0 x1 x2 x3 x4 x5 x6 x7 x8 y : Slot) (r : List Slot) : (x0 :: x1 :: x2 :: x3 :: x4 :: x5 :: x6 :: x7 :: x8 :: r).set 8 y = x0 :: x1 :: x2 :: x3 :: x4 :: x5 :: x6 :: x7 :: y :: r := rfl
theorem gD_8 (x0 x1 x2 x3 x4 x5 x6 x7 x8 y : Slot) (r : List Slot) : (x0 :: x1 :: x2 :: x3 :: x4 :: x5 :: x6 :: x7 :: x8 :: r).getD 8 y = x8 := rfl
theorem gt_9 (x0 x1 x2 x3 x4 x5 x6 x7 x8 x9 : Slot) (r : List Slot) : (x0 :: x1 :: x2 :: x3 :: x4 :: x5 :: x6 :: x7 :: x8 :: x9 :: r)[9]? = some x9 := rfl
theorem st_9 (x0 x1 x2 x3 x4 x5 x6 x7 x8 x9 y : Slot) (r : List Slot) : (x0 :: x1 :: x2 :: x3 :: x4 :: x5 :: x6 :: x7 :: x8 :: x9 :: r).set 9 y = x0 :: x1 :: x2 :: x3 :: x4 :: x5 :: x6 :: x7 :: x8 :: y :: r := rfl
theorem gD_9 (x0 x1 x2 x3 x4 x5 x6 x7 x8 x9 y : Slot) (r : List Slot) : (x0 :: x1 :: x2 :: x3 :: x4 :: x5 :: x6 :: x7 :: x8 :: x9 :: r).getD 9 y = x9 := rfl
theorem gt_10 (x0 x1 x2 x3 x4 x5 x6 x7 x8 x9 x10 : Slot) (r : List Slot) : (x0 :: x1 :: x2 :: x3 :: x4 :: x5 :: x6 :: x7 :: x8 :: x9 :: x10 :: r)[10]? = some x10 := rfl
theorem st_10 (x0 x1 x2 x3 x4 x5 x6 x7 x8 x9 x10 y : Slot) (r : List Slot) : (x0 :: x1 :: x2 :: x3 :: x4 :: x5 :: x6 :: x7 :: x8 :: x9 :: x10 :: r).set 10 y = x0 :: x1 :: x2 :: x3 :: x4 :: x5 :: x6 :: x7 :: x8 :: x9 :: y :: r := rfl
theorem gD_10 (x0 x1 x2 x3 x4 x5 x6 x7 x8 x9 x10 y : Slot) (r : List Slot) : (x0 :: x1 :: x2 :: x3 :: x4 :: x5 :: x6 :: x7 :: x8 :: x9 :: x10 :: r).getD 10 y = x10 := rfl
theorem gt_11 (x0 x1 x2 x3 x4 x5 x6 x7 x8 x9 x10 x11 : Slot) (r : List Slot) : (x0 :: x1 :: x2 :: x3 :: x4 :: x5 :: x6 :: x7 :: x8 :: x9 :: x10 :: x11 :: r)[11]? = some x11 := rfl
theorem st_11 (x0 x1 x2 x3 x4 x5 x6 x7 x8 x9 x10 x11 y : Slot) (r : List Slot) : (x0 :: x1 :: x2 :: x3 :: x4 :: x5 :: x6 :: x7 :: x8 :: x9 :: x10 :: x11 :: r).set 11 y = x0 :: x1 :: x2 :: x3 :: x4 :: x5 :: x6 :: x7 :: x8 :: x9 :: x10 :: y :: r := rfl
theorem gD_11 (x0 x1 x2 x3 x4 x5 x6 x7 x8 x9 x10 x11 y : Slot) (r : List Slot) : (x0 :: x1 :: x2 :: x3 :: x4 :: x5 :: x6 :: x7 :: x8 :: x9 :: x10 :: x11 :: r).getD 11 y = x11 := rfl
theorem gt_12 (x0 x1 x2 x3 x4 x5 x6 x7 x8 x9 x10 x11 x12 : Slot) (r : List Slot) : (x0 :: x1 :: x2 :: x3 :: x4 :: x5 :: x6 :: x7 :: x8 :: x9 :: x10 :: x11 :: x12 :: r)[12]? = some x12 := rfl
theorem st_12 (x0 x1 x2 x3 x4 x5 x6 x7 x8 x9 x10 x11 x12 y : Slot) (r : List Slot) : (x0 :: x1 :: x2 :: x3 :: x4 :: x5 :: x6 :: x7 :: x8 :: x9 :: x10 :: x11 :: x12 :: r).set 12 y = x0 :: x1 :: x2 :: x3 :: x4 :: x5 :: x6 :: x7 :: x8 :: x9 :: x10 :: x11 :: y :: r := rfl
theorem gD_12 (x0 x1 x2 x3 x4 x5 x6 x7 x8 x9 x10 x11 x12 y : Slot) (r : List Slot) : (x0 :: x1 :: x2 :: x3 :: x4 :: x5 :: x6 :: x7 :: x8 :: x9 :: x10 :: x11 :: x12 :: r).getD 12 y = x12 := rfl
theorem gt_13 (x0 x1 x2 x3 x4 x5 x6 x7 x8 x9 x10 x11 x12 x13 : Slot) (r : List Slot) : (x0 :: x1 :: x2 :: x3 :: x4 :: x5 :: x6 :: x7 :: x8 :: x9 :: x10 :: x11 :: x12 :: x13 :: r)[13]? = some x13 := rfl
theorem st_13 (x0 x1 x2 x3 x4 x5 x6 x7 x8 x9 x10 x11 x12 x13 y : Slot) (r : List Slot) : (x0 :: x1 :: x2 :: x3 :: x4 :: x5 :: x6 :: x7 :: x8 :: x9 :: x10 :: x11 :: x12 :: x13 :: r).set 13 y = x0 :: x1 :: x2 :: x3 :: x4 :: x5 :: x6 :: x7 :: x8 :: x9 :: x10 :: x11 :: x12 :: y :: r := rfl
theorem gD_13 (x0 x1 x2 x3 x4 x5 x6 x7 x8 x9 x10 x11 x12 x13 y : Slot) (r : List Slot) : (x0 :: x1 :: x2 :: x3 :: x4 :: x5 :: x6 :: x7 :: x8 :: x9 :: x10 :: x11 :: x12 :: x13 :: r).getD 13 y = x13 := rfl
theorem gt_14 (x0 x1 x2 x3 x4 x5 x6 x7 x8 x9 x10 x11 x12 x13 x14 : Slot) (r : List Slot) : (x0 :: x1 :: x2 :: x3 :: x4 :: x5 :: x6 :: x7 :: x8 :: x9 :: x10 :: x11 :: x12 :: x13 :: x14 :: r)[14]? = some x14 := rfl
theorem st_14 (x0 x1 x2 x3 x4 x5 x6 x7 x8 x9 x10 x11 x12 x13 x14 y : Slot) (r : List Slot) : (x0 :: x1 :: x2 :: x3 :: x4 :: x5 :: x6 :: x7 :: x8 :: x9 :: x10 :: x11 :: x12 :: x13 :: x14 :: r).set 14 y = x0 :: x1 :: x2 :: x3 :: x4 :: x5 :: x6 :: x7 :: x8 :: x9 :: x10 :: x11 :: x12 :: x13 :: y :: r := rfl
theorem gD_14 (x0 x1 x2 x3 x4 x5 x6 x7 x8 x9 x10 x11 x12 x13 x14 y : Slot) (r : List Slot) : (x0 :: x1 :: x2 :: x3 :: x4 :: x5 :: x6 :: x7 :: x8 :: x9 :: x10 :: x11 :: x12 :: x13 :: x14 :: r).getD 14 y = x14 := rfl
theorem gt_15 (x0 x1 x2 x3 x4 x5 x6 x7 x8 x9 x10 x11 x12 x13 x14 x15 : Slot) (r : List Slot) : (x0 :: x1 :: x2 :: x3 :: x4 :: x5 :: x6 :: x7 :: x8 :: x9 :: x10 :: x11 :: x12 :: x13 :: x14 :: x15 :: r)[15]? = some x15 := rfl
theorem st_15 (x0 x1 x2 x3 x4 x5 x6 x7 x8 x9 x10 x11 x12 x13 x14 x15 y : Slot) (r : List Slot) : (x0 :: x1 :: x2 :: x3 :: x4 :: x5 :: x6 :: x7 :: x8 :: x9 :: x10 :: x11 :: x12 :: x13 :: x14 :: x15 :: r).set 15 y = x0 :: x1 :: x2 :: x3 :: x4 :: x5 :: x6 :: x7 :: x8 :: x9 :: x10 :: x11 :: x12 :: x13 :: x14 :: y :: r := rfl
theorem gD_15 (x0 x1 x2 x3 x4 x5 x6 x7 x8 x9 x10 x11 x12 x13 x14 x15 y : Slot) (r : List Slot) : (x0 :: x1 :: x2 :: x3 :: x4 :: x5 :: x6 :: x7 :: x8 :: x9 :: x10 :: x11 :: x12 :: x13 :: x14 :: x15 :: r).getD 15 y = x15 := rfl
theorem gt_16 (x0 x1 x2 x3 x4 x5 x6 x7 x8 x9 x10 x11 x12 x13 x14 x15 x16 : Slot) (r : List Slot) : (x0 :: x1 :: x2 :: x3 :: x4 :: x5 :: x6 :: x7 :: x8 :: x9 :: x10 :: x11 :: x12 :: x13 :: x14 :: x15 :: x16 :: r)[16]? = some x16 := rfl
theorem st_16 (x0 x1 x2 x3 x4 x5 x6 x7 x8 x9 x10 x11 x12 x13 x14 x15 x16 y : Slot) (r : List Slot) : (x0 :: x1 :: x2 :: x3 :: x4 :: x5 :: x6 :: x7 :: x8 :: x9 :: x10 :: x11 :: x12 :: x13 :: x14 :: x15 :: x16 :: r).set 16 y = x0 :: x1 :: x2 :: x3 :: x4 :: x5 :: x6 :: x7 :: x8 :: x9 :: x10 :: x11 :: x12 :: x13 :: x14 :: x15 :: y :: r := rfl
theorem gD_16 (x0 x1 x2 x3 x4 x5 x6 x7 x8 x9 x10 x11 x12 x13 x14 x15 x16 y : Slot) (r : List Slot) : (x0 :: x1 :: x2 :: x3 :: x4 :: x5 :: x6 :: x7 :: x8 :: x9 :: x10 :: x11 :: x12 :: x13 :: x14 :: x15 :: x16 :: r).getD 16 y = x16 := rfl
theorem gt_17 (x0 x1 x2 x3 x4 x5 x6 x7 x8 x9 x10 x11 x12 x13 x14 x15 x16 x17 : Slot) (r : List Slot) : (x0 :: x1 :: x2 :: x3 :: x4 :: x5 :: x6 :: x7 :: x8 :: x9 :: x10 :: x11 :: x12 :: x13 :: x14 :: x15 :: x16 :: x17 :: r)[17]? = some x17 := rfl
theorem st_17 (x0 x1 x2 x3 x4 x5 x6 x7 x8 x9 x10 x11 x12 x13 x14 x15 x16 x17 y : Slot) (r : List Slot) : (x0 :: x1 :: x2 :: x3 :: x4 :: x5 :: x6 :: x7 :: x8 :: x9 :: x10 :: x11 :: x12 :: x13 :: x14 :: x15 :: x16 :: x17 :: r).set 17 y = x0 :: x1 :: x2 :: x3 :: x4 :: x5 :: x6 :: x7 :: x8 :: x9 :: x10 :: x11 :: x12 :: x13 :: x14 :: x15 :: x16 :: y :: r := rfl
theorem gD_17 (x0 x1 x2 x3 x4 x5 x6 x7 x8 x9 x10 x11 x12 x13 x14 x15 x16 x17 y : Slot) (r : List Slot) : (x0 :: x1 :: x2 :: x3 :: x4 :: x5 :: x6 :: x7 :: x8 :: x9 :: x10 :: x11 :: x12 :: x13 :: x14 :: x15 :: x16 :: x17 :: r).getD 17 y = x17 := rfl
theorem gt_18 (x0 x1 x2 x3 x4 x5 x6 x7 x8 x9 x10 x11 x12 x13 x14 x15 x16 x17 x18 : Slot) (r : List Slot) : (x0 :: x1 :: x2 :: x3 :: x4 :: x5 :: x6 :: x7 :: x8 :: x9 :: x10 :: x11 :: x12 :: x13 :: x14 :: x15 :: x16 :: x17 :: x18 :: r)[18]? = some x18 := rfl
theorem st_18 (x0 x1 x2 x3 x4 x5 x6 x7 x8 x9 x10 x11 x12 x13 x14 x15 x16 x17 x18 y : Slot) (r : List Slot) : (x0 :: x1 :: x2 :: x3 :: x4 :: x5 :: x6 :: x7 :: x8 :: x9 :: x10 :: x11 :: x12 :: x13 :: x14 :: x15 :: x16 :: x17 :: x18 :: r).set 18 y = x0 :: x1 :: x2 :: x3 :: x4 :: x5 :: x6 :: x7 :: x8 :: x9 :: x10 :: x11 :: x12 :: x13 :: x14 :: x15 :: x16 :: x17 :: y :: r := rfl
theorem gD_18 (x0 x1 x2 x3 x4 x5 x6 x7 x8 x9 x10 x11 x12 x13 x14 x15 x16 x17 x18 y : Slot) (r : List Slot) : (x0 :: x1 :: x2 :: x3 :: x4 :: x5 :: x6 :: x7 :: x8 :: x9 :: x10 :: x11 :: x12 :: x13 :: x14 :: x15 :: x16 :: x17 :: x18 :: r).getD 18 y = x18 := rfl
theorem gt_19 (x0 x1 x2 x3 x4 x5 x6 x7 x8 x9 x10 x11 x12 x13 x14 x15 x16 x17 x18 x19 : Slot) (r : List Slot) : (x0 :: x1 :: x2 :: x3 :: x4 :: x5 :: x6 :: x7 :: x8 :: x9 :: x10 :: x11 :: x12 :: x13 :: x14 :: x15 :: x16 :: x17 :: x18 :: x19 :: r)[19]? = some x19 := rfl
theorem st_19 (x0 x1 x2 x3 x4 x5 x6 x7 x8 x9 x10 x11 x12 x13 x14 x15 x16 x17 x18 x19 y : Slot) (r : List Slot) : (x0 :: x1 :: x2 :: x3 :: x4 :: x5 :: x6 :: x7 :: x8 :: x9 :: x10 :: x11 :: x12 :: x13 :: x14 :: x15 :: x16 :: x17 :: x18 :: x19 :: r).set 19 y = x0 :: x1 :: x2 :: x3 :: x4 :: x5 :: x6 :: x7 :: x8 :: x9 :: x10 :: x11 :: x12 :: x13 :: x14 :: x15 :: x16 :: x17 :: x18 :: y :: r := rfl
theorem gD_19 (x0 x1 x2 x3 x4 x5 x6 x7 x8 x9 x10 x11 x12 x13 x14 x15 x16 x17 x18 x19 y : Slot) (r : List Slot) : (x0 :: x1 :: x2 :: x3 :: x4 :: x5 :: x6 :: x7 :: x8 :: x9 :: x10 :: x11 :: x12 :: x13 :: x14 :: x15 :: x16 :: x17 :: x18 :: x19 :: r).getD 19 y = x19 := rfl
theorem gt_20 (x0 x1 x2 x3 x4 x5 x6 x7 x8 x9 x10 x11 x12 x13 x14 x15 x16 x17 x18 x19 x20 : Slot) (r : List Slot) : (x0 :: x1 :: x2 :: x3 :: x4 :: x5 :: x6 :: x7 :: x8 :: x9 :: x10 :: x11 :: x12 :: x13 :: x14 :: x15 :: x16 :: x17 :: x18 :: x19 :: x20 :: r)[20]? = some x20 := rfl
theorem st_20 (x0 x1 x2 x3 x4 x5 x6 x7 x8 x9 x10 x11 x12 x13 x14 x15 x16 x17 x18 x19 x20 y : Slot) (r : List Slot) : (x0 :: x1 :: x2 :: x3 :: x4 :: x5 :: x6 :: x7 :: x8 :: x9 :: x10 :: x11 :: x12 :: x13 :: x14 :: x15 :: x16 :: x17 :: x18 :: x19 :: x20 :: r).set 20 y = x0 :: x1 :: x2 :: x3 :: x4 :: x5 :: x6 :: x7 :: x8 :: x9 :: x10 :: x11 :: x12 :: x13 :: x14 :: x15 :: x16 :: x17 :: x18 :: x19 :: y :: r := rfl
theorem gD_20 (x0 x1 x2 x3 x4 x5 x6 x7 x8 x9 x10 x11 x12 x13 x14 x15 x16 x17 x18 x19 x20 y : Slot) (r : List Slot) : (x0 :: x1 :: x2 :: x3 :: x4 :: x5 :: x6 :: x7 :: x8 :: x9 :: x10 :: x11 :: x12 :: x13 :: x14 :: x15 :: x16 :: x17 :: x18 :: x19 :: x20 :: r).getD 20 y = x20 := rfl
theorem gt_21 (x0 x1 x2 x3 x4 x5 x6 x7 x8 x9 x10 x11 x12 x13 x14 x15 x16 x17 x18 x19 x20 x21 : Slot) (r : List Slot) : (x0 :: x1 :: x2 :: x3 :: x4 :: x5 :: x6 :: x7 :: x8 :: x9 :: x10 :: x11 :: x12 :: x13 :: x14 :: x15 :: x16 :: x17 :: x18 :: x19 :: x20 :: x21 :: r)[21]? = some x21 := rfl
theorem st_21 (x0 x1 x2 x3 x4 x5 x6 x7 x8 x9 x10 x11 x12 x13 x14 x15 x16 x17 x18 x19 x20 x21 y : Slot) (r : List Slot) : (x0 :: x1 :: x2 :: x3 :: x4 :: x5 :: x6 :: x7 :: x8 :: x9 :: x10 :: x11 :: x12 :: x13 :: x14 :: x15 :: x16 :: x17 :: x18 :: x19 :: x20 :: x21 :: r).set 21 y = x0 :: x1 :: x2 :: x3 :: x4 :: x5 :: x6 :: x7 :: x8 :: x9 :: x10 :: x11 :: x12 :: x13 :: x14 :: x15 :: x16 :: x17 :: x18 :: x19 :: x20 :: y :: r := rfl
theorem gD_21 (x0 x1 x2 x3 x4 x5 x6 x7 x8 x9 x10 x11 x12 x13 x14 x15 x16 x17 x18 x19 x20 x21 y : Slot) (r : List Slot) : (x0 :: x1 :: x2 :: x3 :: x4 :: x5 :: x6 :: x7 :: x8 :: x9 :: x10 :: x11 :: x12 :: x13 :: x14 :: x15 :: x16 :: x17 :: x18 :: x19 :: x20 :: x21 :: r).getD 21 y = x21 := rfl
theorem gt_22 (x0 x1 x2 x3 x4 x5 x6 x7 x8 x9 x10 x11 x12 x13 x14 x15 x16 x17 x18 x19 x20 x21 x22 : Slot) (r : List Slot) : (x0 :: x1 :: x2 :: x3 :: x4 :: x5 :: x6 :: x7 :: x8 :: x9 :: x10 :: x11 :: x12 :: x13 :: x14 :: x15 :: x16 :: x17 :: x18 :: x19 :: x20 :: x21 :: x22 :: r)[22]? = some x22 := rfl
theorem st_22 (x0 x1 x2 x3 x4 x5 x6 x7 x8 x9 x10 x11 x12 x13 x14 x15 x16 x17 x18 x19 x20 x21 x22 y : Slot) (r : List Slot) : (x0 :: x1 :: x2 :: x3 :: x4 :: x5 :: x6 :: x7 :: x8 :: x9 :: x10 :: x11 :: x12 :: x13 :: x14 :: x15 :: x16 :: x17 :: x18 :: x19 :: x20 :: x21 :: x22 :: r).set 22 y = x0 :: x1 :: x2 :: x3 :: x4 :: x5 :: x6 :: x7 :: x8 :: x9 :: x10 :: x11 :: x12 :: x13 :: x14 :: x15 :: x16 :: x17 :: x18 :: x19 :: x20 :: x21 :: y :: r := rfl
theorem gD_22 (x0 x1 x2 x3 x4 x5 x6 x7 x8 x9 x10 x11 x12 x13 x14 x15 x16 x17 x18 x19 x20 x21 x22 y : Slot) (r : List Slot) : (x0 :: x1 :: x2 :: x3 :: x4 :: x5 :: x6 :: x7 :: x8 :: x9 :: x10 :: x11 :: x12 :: x13 :: x14 :: x15 :: x16 :: x17 :: x18 :: x19 :: x20 :: x21 :: x22 :: r).getD 22 y = x22 := rfl
theorem gt_23 (x0 x1 x2 x3 x4 x5 x6 x7 x8 x9 x10 x11 x12 x13 x14 x15 x16 x17 x18 x19 x20 x21 x22 x23 : Slot) (r : List Slot) : (x0 :: x1 :: x2 :: x3 :: x4 :: x5 :: x6 :: x7 :: x8 :: x9 :: x10 :: x11 :: x12 :: x13 :: x14 :: x15 :: x16 :: x17 :: x18 :: x19 :: x20 :: x21 :: x22 :: x23 :: r)[23]? = some x23 := rfl
theorem st_23 (x0 x1 x2 x3 x4 x5 x6 x7 x8 x9 x10 x11 x12 x13 x14 x15 x16 x17 x18 x19 x20 x21 x22 x23 y : Slot) (r : List Slot) : (x0 :: x1 :: x2 :: x3 :: x4 :: x5 :: x6 :: x7 :: x8 :: x9 :: x10 :: x11 :: x12 :: x13 :: x14 :: x15 :: x16 :: x17 :: x18 :: x19 :: x20 :: x21 :: x22 :: x23 :: r).set 23 y = x0 :: x1 :: x2 :: x3 :: x4 :: x5 :: x6 :: x7 :: x8 :: x9 :: x10 :: x11 :: x12 :: x13 :: x14 :: x15 :: x16 :: x17 :: x18 :: x19 :: x20 :: x21 :: x22 :: y :: r := rfl
theorem gD_23 (x0 x1 x2 x3 x4 x5 x6 x7 x8 x9 x10 x11 x12 x13 x14 x15 x16 x17 x18 x19 x20 x21 x22 x23 y : Slot) (r : List Slot) : (x0 :: x1 :: x2 :: x3 :: x4 :: x5 :: x6 :: x7 :: x8 :: x9 :: x10 :: x11 :: x12 :: x13 :: x14 :: x15 :: x16 :: x17 :: x18 :: x19 :: x20 :: x21 :: x22 :: x23 :: r).getD 23 y = x23 := rfl
theorem gt_24 (x0 x1 x2 x3 x4 x5 x6 x7 x8 x9 x10 x11 x12 x13 x14 x15 x16 x17 x18 x19 x20 x21 x22 x23 x24 : Slot) (r : List Slot) : (x0 :: x1 :: x2 :: x3 :: x4 :: x5 :: x6 :: x7 :: x8 :: x9 :: x10 :: x11 :: x12 :: x13 :: x14 :: x15 :: x16 :: x17 :: x18 :: x19 :: x20 :: x21 :: x22 :: x23 :: x24 :: r)[24]? = some x24 := rfl
theorem st_24 (x0 x1 x2 x3 x4 x5 x6 x7 x8 x9 x10 x11 x12 x13 x14 x15 x16 x17 x18 x19 x20 x21 x22 x23 x24 y : Slot) (r : List Slot) : (x0 :: x1 :: x2 :: x3 :: x4 :: x5 :: x6 :: x7 :: x8 :: x9 :: x10 :: x11 :: x12 :: x13 :: x14 :: x15 :: x16 :: x17 :: x18 :: x19 :: x20 :: x21 :: x22 :: x23 :: x24 :: r).set 24 y = x0 :: x1 :: x2 :: x3 :: x4 :: x5 :: x6 :: x7 :: x8 :: x9 :: x10 :: x11 :: x12 :: x13 :: x14 :: x15 :: x16 :: x17 :: x18 :: x19 :: x20 :: x21 :: x22 :: x23 :: y :: r := rfl
theorem gD_24 (x0 x1 x2 x3 x4 x5 x6 x7 x8 x9 x10 x11 x12 x13 x14 x15 x16 x17 x18 x19 x20 x21 x22 x23 x24 y : Slot) (r : List Slot) : (x0 :: x1 :: x2 :: x3 :: x4 :: x5 :: x6 :: x7 :: x8 :: x9 :: x10 :: x11 :: x12 :: x13 :: x14 :: x15 :: x16 :: x17 :: x18 :: x19 :: x20 :: x21 :: x22 :: x23 :: x24 :: r).getD 24 y = x24 := rfl
theorem gt_25 (x0 x1 x2 x3 x4 x5 x6 x7 x8 x9 x10 x11 x12 x13 x14 x15 x16 x17 x18 x19 x20 x21 x22 x23 x24 x25 : Slot) (r : List Slot) : (x0 :: x1 :: x2 :: x3 :: x4 :: x5 :: x6 :: x7 :: x8 :: x9 :: x10 :: x11 :: x12 :: x13 :: x14 :: x15 :: x16 :: x17 :: x18 :: x19 :: x20 :: x21 :: x22 :: x23 :: x24 :: x25 :: r)[25]? = some x25 := rfl
theorem st_25 (x0 x1 x2 x3 x4 x5 x6 x7 x8 x9 x10 x11 x12 x13 x14 x15 x16 x17 x18 x19 x20 x21 x22 x23 x24 x25 y : Slot) (r : List Slot) : (x0 :: x1 :: x2 :: x3 :: x4 :: x5 :: x6 :: x7 :: x8 :: x9 :: x10 :: x11 :: x12 :: x13 :: x14 :: x15 :: x16 :: x17 :: x18 :: x19 :: x20 :: x21 :: x22 :: x23 :: x24 :: x25 :: r).set 25 y = x0 :: x1 :: x2 :: x3 :: x4 :: x5 :: x6 :: x7 :: x8 :: x9 :: x10 :: x11 :: x12 :: x13 :: x14 :: x15 :: x16 :: x17 :: x18 :: x19 :: x20 :: x21 :: x22 :: x23 :: x24 :: y :: r := rfl
theorem gD_25 (x0 x1 x2 x3 x4 x5 x6 x7 x8 x9 x10 x11 x12 x13 x14 x15 x16 x17 x18 x19 x20 x21 x22 x23 x24 x25 y : Slot) (r : List Slot) : (x0 :: x1 :: x2 :: x3 :: x4 :: x5 :: x6 :: x7 :: x8 :: x9 :: x10 :: x11 :: x12 :: x13 :: x14 :: x15 :: x16 :: x17 :: x18 :: x19 :: x20 :: x21 :: x22 :: x23 :: x24 :: x25 :: r).getD 25 y = x25 := rfl
theorem gt_26 (x0 x1 x2 x3 x4 x5 x6 x7 x8 x9 x10 x11 x12 x13 x14 x15 x16 x17 x18 x19 x20 x21 x22 x23 x24 x25 x26 : Slot) (r : List Slot) : (x0 :: x1 :: x2 :: x3 :: x4 :: x5 :: x6 :: x7 :: x8 :: x9 :: x10 :: x11 :: x12 :: x13 :: x14 :: x15 :: x16 :: x17 :: x18 :: x19 :: x20 :: x21 :: x22 :: x23 :: x24 :: x25 :: x26 :: r)[26]? = some x26 := rfl
theorem st_26 (x0 x1 x2 x3 x4 x5 x6 x7 x8 x9 x10 x11 x12 x13 x14 x15 x16 x17 x18 x19 x20 x21 x22 x23 x24 x25 x26 y : Slot) (r : List Slot) : (x0 :: x1 :: x2 :: x3 :: x4 :: x5 :: x6 :: x7 :: x8 :: x9 :: x10 :: x11 :: x12 :: x13 :: x14 :: x15 :: x16 :: x17 :: x18 :: x19 :: x20 :: x21 :: x22 :: x23 :: x24 :: x25 :: x26 :: r).set 26 y = x0 :: x1 :: x2 :: x3 :: x4 :: x5 :: x6 :: x7 :: x8 :: x9 :: x10 :: x11 :: x12 :: x13 :: x14 :: x15 :: x16 :: x17 :: x18 :: x19 :: x20 :: x21 :: x22 :: x23 :: x24 :: x25 :: y :: r := rfl
theorem gD_26 (x0 x1 x2 x3 x4 x5 x6 x7 x8 x9 x10 x11 x12 x13 x14 x15 x16 x17 x18 x19 x20 x21 x22 x23 x24 x25 x26 y : Slot) (r : List Slot) : (x0 :: x1 :: x2 :: x3 :: x4 :: x5 :: x6 :: x7 :: x8 :: x9 :: x10 :: x11 :: x12 :: x13 :: x14 :: x15 :: x16 :: x17 :: x18 :: x19 :: x20 :: x21 :: x22 :: x23 :: x24 :: x25 :: x26 :: r).getD 26 y = x26 := rfl
theorem gt_27 (x0 x1 x2 x3 x4 x5 x6 x7 x8 x9 x10 x11 x12 x13 x14 x15 x16 x17 x18 x19 x20 x21 x22 x23 x24 x25 x26 x27 : Slot) (r : List Slot) : (x0 :: x1 :: x2 :: x3 :: x4 :: x5 :: x6 :: x7 :: x8 :: x9 :: x10 :: x11 :: x12 :: x13 :: x14 :: x15 :: x16 :: x17 :: x18 :: x19 :: x20 :: x21 :: x22 :: x23 :: x24 :: x25 :: x26 :: x27 :: r)[27]? = some x27 := rfl
theorem st_27 (x0 x1 x2 x3 x4 x5 x6 x7 x8 x9 x10 x11 x12 x13 x14 x15 x16 x17 x18 x19 x20 x21 x22 x23 x24 x25 x26 x27 y : Slot) (r : List Slot) : (x0 :: x1 :: x2 :: x3 :: x4 :: x5 :: x6 :: x7 :: x8 :: x9 :: x10 :: x11 :: x12 :: x13 :: x14 :: x15 :: x16 :: x17 :: x18 :: x19 :: x20 :: x21 :: x22 :: x23 :: x24 :: x25 :: x26 :: x27 :: r).set 27 y = x0 :: x1 :: x2 :: x3 :: x4 :: x5 :: x6 :: x7 :: x8 :: x9 :: x10 :: x11 :: x12 :: x13 :: x14 :: x15 :: x16 :: x17 :: x18 :: x19 :: x20 :: x21 :: x22 :: x23 :: x24 :: x25 :: x26 :: y :: r := rfl
theorem gD_27 (x0 x1 x2 x3 x4 x5 x6 x7 x8 x9 x10 x11 x12 x13 x14 x15 x16 x17 x18 x19 x20 x21 x22 x23 x24 x25 x26 x27 y : Slot) (r : List Slot) : (x0 :: x1 :: x2 :: x3 :: x4 :: x5 :: x6 :: x7 :: x8 :: x9 :: x10 :: x11 :: x12 :: x13 :: x14 :: x15 :: x16 :: x17 :: x18 :: x19 :: x20 :: x21 :: x22 :: x23 :: x24 :: x25 :: x26 :: x27 :: r).getD 27 y = x27 := rfl
theorem gt_28 (x0 x1 x2 x3 x4 x5 x6 x7 x8 x9 x10 x11 x12 x13 x14 x15 x16 x17 x18 x19 x20 x21 x22 x23 x24 x25 x26 x27 x28 : Slot) (r : List Slot) : (x0 :: x1 :: x2 :: x3 :: x4 :: x5 :: x6 :: x7 :: x8 :: x9 :: x10 :: x11 :: x12 :: x13 :: x14 :: x15 :: x16 :: x17 :: x18 :: x19 :: x20 :: x21 :: x22 :: x23 :: x24 :: x25 :: x26 :: x27 :: x28 :: r)[28]? = some x28 := rfl
theorem st_28 (x0 x1 x2 x3 x4 x5 x6 x7 x8 x9 x10 x11 x12 x13 x14 x15 x16 x17 x18 x19 x20 x21 x22 x23 x24 x25 x26 x27 x28 y : Slot) (r : List Slot) : (x0 :: x1 :: x2 :: x3 :: x4 :: x5 :: x6 :: x7 :: x8 :: x9 :: x10 :: x11 :: x12 :: x13 :: x14 :: x15 :: x16 :: x17 :: x18 :: x19 :: x20 :: x21 :: x22 :: x23 :: x24 :: x25 :: x26 :: x27 :: x28 :: r).set 28 y = x0 :: x1 :: x2 :: x3 :: x4 :: x5 :: x6 :: x7 :: x8 :: x9 :: x10 :: x11 :: x12 :: x13 :: x14 :: x15 :: x16 :: x17 :: x18 :: x19 :: x20 :: x21 :: x22 :: x23 :: x24 :: x25 :: x26 :: x27 :: y :: r := rfl
theorem gD_28 (x0 x1 x2 x3 x4 x5 x6 x7 x8 x9 x10 x11 x12 x13 x14 x15 x16 x17 x18 x19 x20 x21 x22 x23 x24 x25 x26 x27 x28 y : Slot) (r : List Slot) : (x0 :: x1 :: x2 :: x3 :: x4 :: x5 :: x6 :: x7 :: x8 :: x9 :: x10 :: x11 :: x12 :: x13 :: x14 :: x15 :: x16 :: x17 :: x18 :: x19 :: x20 :: x21 :: x22 :: x23 :: x24 :: x25 :: x26 :: x27 :: x28 :: r).getD 28 y = x28 := rfl
theorem gt_29 (x0 x1 x2 x3 x4 x5 x6 x7 x8 x9 x10 x11 x12 x13 x14 x15 x16 x17 x18 x19 x20 x21 x22 x23 x24 x25 x26 x27 x28 x29 : Slot) (r : List Slot) : (x0 :: x1 :: x2 :: x3 :: x4 :: x5 :: x6 :: x7 :: x8 :: x9 :: x10 :: x11 :: x12 :: x13 :: x14 :: x15 :: x16 :: x17 :: x18 :: x19 :: x20 :: x21 :: x22 :: x23 :: x24 :: x25 :: x26 :: x27 :: x28 :: x29 :: r)[29]? = some x29 := rfl
theorem st_29 (x0 x1 x2 x3 x4 x5 x6 x7 x8 x9 x10 x11 x12 x13 x14 x15 x16 x17 x18 x19 x20 x21 x22 x23 x24 x25 x26 x27 x28 x29 y : Slot) (r : List Slot) : (x0 :: x1 :: x2 :: x3 :: x4 :: x5 :: x6 :: x7 :: x8 :: x9 :: x10 :: x11 :: x12 :: x13 :: x14 :: x15 :: x16 :: x17 :: x18 :: x19 :: x20 :: x21 :: x22 :: x23 :: x24 :: x25 :: x26 :: x27 :: x28 :: x29 :: r).set 29 y = x0 :: x1 :: x2 :: x3 :: x4 :: x5 :: x6 :: x7 :: x8 :: x9 :: x10 :: x11 :: x12 :: x13 :: x14 :: x15 :: x16 :: x17 :: x18 :: x19 :: x20 :: x21 :: x22 :: x23 :: x24 :: x25 :: x26 :: x27 :: x28 :: y :: r := rfl
theorem gD_29 (x0 x1 x2 x3 x4 x5 x6 x7 x8 x9 x10 x11 x12 x13 x14 x15 x16 x17 x18 x19 x20 x21 x22 x23 x24 x25 x26 x27 x28 x29 y : Slot) (r : List Slot) : (x0 :: x1 :: x2 :: x3 :: x4 :: x5 :: x6 :: x7 :: x8 :: x9 :: x10 :: x11 :: x12 :: x13 :: x14 :: x15 :: x16 :: x17 :: x18 :: x19 :: x20 :: x21 :: x22 :: x23 :: x24 :: x25 :: x26 :: x27 :: x28 :: x29 :: r).getD 29 y = x29 := rfl
theorem ixT_0 (x0 : D) (r : List D) : opIx (.tuple (x0 :: r)) (.int 0) = some x0 := atI_nat _ 0
theorem ixL_0 (x0 : D) (r : List D) : opIx (.list (x0 :: r)) (.int 0) = some x0 := atI_nat _ 0
theorem ixT_1 (x0 x1 : D) (r : List D) : opIx (.tuple (x0 :: x1 :: r)) (.int 1) = some x1 := atI_nat _ 1
theorem ixL_1 (x0 x1 : D) (r : List D) : opIx (.list (x0 :: x1 :: r)) (.int 1) = some x1 := atI_nat _ 1
theorem ixT_2 (x0 x1 x2 : D) (r : List D) : opIx (.tuple (x0 :: x1 :: x2 :: r)) (.int 2) = some x2 := atI_nat _ 2
theorem ixL_2 (x0 x1 x2 : D) (r : List D) : opIx (.list (x0 :: x1 :: x2 :: r)) (.int 2) = some x2 := atI_nat _ 2
theorem ixT_3 (x0 x1 x2 x3 : D) (r : List D) : opIx (.tuple (x0 :: x1 :: x2 :: x3 :: r)) (.int 3) = some x3 := atI_nat _ 3
theorem ixL_3 (x0 x1 x2 x3 : D) (r : List D) : opIx (.list (x0 :: x1 :: x2 :: x3 :: r)) (.int 3) = some x3 := atI_nat _ 3
theorem ixT_4 (x0 x1 x2 x3 x4 : D) (r : List D) : opIx (.tuple (x0 :: x1 :: x2 :: x3 :: x4 :: r)) (.int 4) = some x4 := atI_nat _ 4
theorem ixL_4 (x0 x1 x2 x3 x4 : D) (r : List D) : opIx (.list (x0 :: x1 :: x2 :: x3 :: x4 :: r)) (.int 4) = some x4 := atI_nat _ 4
theorem ixT_5 (x0 x1 x2 x3 x4 x5 : D) (r : List D) : opIx (.tuple (x0 :: x1 :: x2 :: x3 :: x4 :: x5 :: r)) (.int 5) = some x5 := atI_nat _ 5
theorem ixL_5 (x0 x1 x2 x3 x4 x5 : D) (r : List D) : opIx (.list (x0 :: x1 :: x2 :: x3 :: x4 :: x5 :: r)) (.int 5) = some x5 := atI_nat _ 5
theorem ixT_6 (x0 x1 x2 x3 x4 x5 x6 : D) (r : List D) : opIx (.tuple (x0 :: x1 :: x2 :: x3 :: x4 :: x5 :: x6 :: r)) (.int 6) = some x6 := atI_nat _ 6
theorem ixL_6 (x0 x1 x2 x3 x4 x5 x6 : D) (r : List D) : opIx (.list (x0 :: x1 :: x2 :: x3 :: x4 :: x5 :: x6 :: r)) (.int 6) = some x6 := atI_nat _ 6
theorem ixT_7 (x0 x1 x2 x3 x4 x5 x6 x7 : D) (r : List D) : opIx (.tuple (x0 :: x1 :: x2 :: x3 :: x4 :: x5 :: x6 :: x7 :: r)) (.int 7) = some x7 := atI_nat _ 7
theorem ixL_7 (x0 x1 x2 x3 x4 x5 x6 x7 : D) (r : List D) : opIx (.list (x0 :: x1 :: x2 :: x3 :: x4 :: x5 :: x6 :: x7 :: r)) (.int 7) = some x7 := atI_nat _ 7
theorem ixT_8 (x0 x1 x2 x3 x4 x5 x6 x7 x8 : D) (r : List D) : opIx (.tuple (x0 :: x1 :: x2 :: x3 :: x4 :: x5 :: x6 :: x7 :: x8 :: r)) (.int 8) = some x8 := atI_nat _ 8
theorem ixL_8 (x0 x1 x2 x3 x4 x5 x6 x7 x8 : D) (r : List D) : opIx (.list (x0 :: x1 :: x2 :: x3 :: x4 :: x5 :: x6 :: x7 :: x8 :: r)) (.int 8) = some x8 := atI_nat _ 8
theorem ixT_9 (x0 x1 x2 x3 x4 x5 x6 x7 x8 x9 : D) (r : List D) : opIx (.tuple (x0 :: x1 :: x2 :: x3 :: x4 :: x5 :: x6 :: x7 :: x8 :: x9 :: r)) (.int 9) = some x9 := atI_nat _ 9
theorem ixL_9 (x0 x1 x2 x3 x4 x5 x6 x7 x8 x9 : D) (r : List D) : opIx (.list (x0 :: x1 :: x2 :: x3 :: x4 :: x5 :: x6 :: x7 :: x8 :: x9 :: r)) (.int 9) = some x9 := atI_nat _ 9
theorem ev_add (a b : Int) : opAdd (.int a) (.int b) = some (.int (a + b)) := rfl
theorem ev_addI (a b : Int) : opAddI (.int a) (.int b) = some (.int (a + b)) := rfl
theorem ev_sub (a b : Int) : opSub (.int a) (.int b) = some (.int (a - b)) := rfl
theorem ev_mul (a b : Int) (h : mulOk a b = true) : opMul (.int a) (.int b) = some (.int (a * b)) := if_pos h
theorem ev_div (a b : Int) (h : divOk b = true) : opDiv (.int a) (.int b) = some (.int (a / b)) := if_pos h
theorem ev_mod (a b : Int) (h : 0 < b) : opMod (.int a) (.int b) = some (.int (a % b)) := if_pos h
theorem ev_neg (a : Int) : opNeg (.int a) = some (.int (-a)) := rfl
theorem ev_lt (a b : Int) : opLt (.int a) (.int b) = some (.bool (decide (a < b))) := rfl
theorem ev_le (a b : Int) : opLe (.int a) (.int b) = some (.bool (decide (a ≤ b))) := rfl
theorem ev_gt (a b : Int) : opGt (.int a) (.int b) = some (.bool (decide (b < a))) := rfl
theorem ev_ge (a b : Int) : opGe (.int a) (.int b) = some (.bool (decide (b ≤ a))) := rfl
theorem ev_lenT (xs : List D) : opLen (.tuple xs) = some (.int (xs.length : Nat)) := rfl
theorem ev_lenL (xs : List D) : opLen (.list xs) = some (.int (xs.length : Nat)) := rfl
theorem ev_all (xs : List D) : opAll (.list xs) = (dBools xs).map fun bs => .bool (bs.all id) := rfl
theorem ev_alln : opAll (.list []) = some (.bool true) := rfl
theorem ev_allc (x : D) (xs : List D) : opAll (.list (x :: xs)) = (dBools (x :: xs)).map fun bs => .bool (bs.all id) := rfl
theorem ev_any (xs : List D) : opAny (.list xs) = (dBools xs).map fun bs => .bool (bs.any id) := rfl
theorem ev_anyn : opAny (.list []) = some (.bool false) := rfl
theorem ev_anyc (x : D) (xs : List D) : opAny (.list (x :: xs)) = (dBools (x :: xs)).map fun bs => .bool (bs.any id) := rfl
theorem ev_sum (xs : List D) : opSum (.list xs) = (dInts xs).map fun ns => .int ns.sum := rfl
theorem ev_sumn : opSum (.list []) = some (.int 0) := rfl
theorem ev_sumc (x : D) (xs : List D) : opSum (.list (x :: xs)) = (dInts (x :: xs)).map fun ns => .int ns.sum := rfl
theorem ev_tupL (xs : List D) : opTuple (.list xs) = some (.tuple xs) := rfl
theorem ev_tupT (xs : List D) : opTuple (.tuple xs) = some (.tuple xs) := rfl
theorem dB_n : dBools [] = some [] := rfl
theorem okW_n (e : List Slot) : okW e [] = true := rfl
theorem okW_c (e : List Slot) (v : Nat) (vs : List Nat) : okW e (v :: vs) = (okS e[v]? && okW e vs) := rfl
theorem okS_f (d : D) : okS (some (.fz d)) = true := rfl
theorem okS_u : okS (some .un) = true := rfl
theorem wipe_n (e : List Slot) : wipeE e [] = e := rfl
theorem wipe_c (e : List Slot) (v : Nat) (vs : List Nat) : wipeE e (v :: vs) = (wipeE e vs).set v .un := rfl
theorem rest_n (o e : List Slot) : restE o e [] = e := rfl
theorem rest_c (o e : List Slot) (v : Nat) (vs : List Nat) : restE o e (v :: vs) = (restE o e vs).set v (o.getD v .un) := rfl
theorem is_int_none : isTy .int .none = false := rfl
theorem is_int_bool (x : Bool) : isTy .int (.bool x) = true := rfl
theorem is_int_int (x : Int) : isTy .int (.int x) = true := rfl
theorem is_int_str (x : Str) : isTy .int (.str x) = false := rfl
theorem is_int_tuple (x : List D) : isTy .int (.tuple x) = false := rfl
theorem is_int_list (x : List D) : isTy .int (.list x) = false := rfl
theorem is_int_dict (x : List (D × D)) : isTy .int (.dict x) = false := rfl
theorem is_bool_none : isTy .bool .none = false := rfl
theorem is_bool_bool (x : Bool) : isTy .bool (.bool x) = true := rfl
theorem is_bool_int (x : Int) : isTy .bool (.int x) = false := rfl
theorem is_bool_str (x : Str) : isTy .bool (.str x) = false := rfl
theorem is_bool_tuple (x : List D) : isTy .bool (.tuple x) = false := rfl
theorem is_bool_list (x : List D) : isTy .bool (.list x) = false := rfl
theorem is_bool_dict (x : List (D × D)) : isTy .bool (.dict x) = false := rfl
theorem is_str_none : isTy .str .none = false := rfl
theorem is_str_bool (x : Bool) : isTy .str (.bool x) = false := rfl
theorem is_str_int (x : Int) : isTy .str (.int x) = false := rfl
theorem is_str_str (x : Str) : isTy .str (.str x) = true := rfl
theorem is_str_tuple (x : List D) : isTy .str (.tuple x) = false := rfl
theorem is_str_list (x : List D) : isTy .str (.list x) = false := rfl
theorem is_str_dict (x : List (D × D)) : isTy .str (.dict x) = false := rfl
theorem is_tuple_none : isTy .tuple .none = false := rfl
theorem is_tuple_bool (x : Bool) : isTy .tuple (.bool x) = false := rfl
theorem is_tuple_int (x : Int) : isTy .tuple (.int x) = false := rfl
theorem is_tuple_str (x : Str) : isTy .tuple (.str x) = false := rfl
theorem is_tuple_tuple (x : List D) : isTy .tuple (.tuple x) = true := rfl
theorem is_tuple_list (x : List D) : isTy .tuple (.list x) = false := rfl
theorem is_tuple_dict (x : List (D × D)) : isTy .tuple (.dict x) = false := rfl
theorem is_list_none : isTy .list .none = false := rfl
theorem is_list_bool (x : Bool) : isTy .list (.bool x) = false := rfl
theorem is_list_int (x : Int) : isTy .list (.int x) = false := rfl
theorem is_list_str (x : Str) : isTy .list (.str x) = false := rfl
theorem is_list_tuple (x : List D) : isTy .list (.tuple x) = false := rfl
theorem is_list_list (x : List D) : isTy .list (.list x) = true := rfl
theorem is_list_dict (x : List (D × D)) : isTy .list (.dict x) = false := rfl
theorem is_dict_none : isTy .dict .none = false := rfl
theorem is_dict_bool (x : Bool) : isTy .dict (.bool x) = false := rfl
theorem is_dict_int (x : Int) : isTy .dict (.int x) = false := rfl
theorem is_dict_str (x : Str) : isTy .dict (.str x) = false := rfl
theorem is_dict_tuple (x : List D) : isTy .dict (.tuple x) = false := rfl
theorem is_dict_list (x : List D) : isTy .dict (.list x) = false := rfl
theorem is_dict_dict (x : List (D × D)) : isTy .dict (.dict x) = true := rfl
theorem e_out (d : D) (s : S Unit) : outOf (.ok (.ret d) s) = .ok d := rfl
theorem e_outN (s : S Unit) : outOf (.ok .nx s) = .ok .none := rfl
theorem e_outE (c : Nat) (s : S Unit) : outOf (.exc c s) = .exc c := rfl
theorem e_outT {T : Type} (d : D) (e : List Slot) (t : T) : outOfT (.ok (.ret d) ⟨e, t⟩) = .ok d t := rfl
theorem e_outTN {T : Type} (e : List Slot) (t : T) : outOfT (.ok .nx ⟨e, t⟩) = .ok .none t := rfl
theorem e_outTE {T : Type} (c : Nat) (e : List Slot) (t : T) : outOfT (.exc c ⟨e, t⟩) = .exc c t := rfl
theorem fnP_run {k n : Nat} {m : M Unit Out} {ds : List D} (h : ds.length = k) : fnP k n m ds = outOf (m ⟨env0 k n ds, ()⟩) := by unfold fnP; rw [if_pos h]
theorem fnT_run {T : Type} {k n : Nat} {m : M T Out} {xs : List Slot} {t : T} (h : xs.length = k) (h2 : xs.all argOk = true) : fnT k n m xs t = outOfT (m ⟨xs ++ List.replicate (n - k) .un, t⟩) := by unfold fnT; rw [if_pos ⟨h, h2⟩]
end Pm

set_option Elab.async false
set_option linter.all false
set_option maxRecDepth 100000
set_option maxHeartbeats 4000000
/-! Pure lemmas for any law. -/
namespace Pm
open PySem L2 RZ
theorem atI_ok {α : Type} {xs : List α} {k : Int} (h0 : 0 ≤ k) (h1 : k < xs.length) : ∃ x, atI xs k = some x ∧ x ∈ xs := by
  unfold atI ixN
  rw [if_pos h0, if_pos h1]
  refine ⟨xs[k.toNat]'(by omega), ?_, List.getElem_mem _⟩
  simp
def isTrueR {T : Type} : Res T Out → Bool
  | .ok (.ret (.bool true)) _ => true
  | _ => false
theorem trueR {T : Type} {r : Res T Out} (h : isTrueR r = true) : ∃ s', r = .ok (.ret (.bool true)) s' := by
  cases r with
  | stuck => cases h
  | exc c s => cases h
  | ok o s =>
    cases o with
    | ret d =>
      cases d with
      | bool b =>
        cases b
        · cases h
        · exact ⟨s, rfl⟩
      | _ => cases h
    | _ => cases h
theorem whileN_false {T : Type} {c : M T Bool} {b : M T Out} {n : Nat} {s s1 : S T} (h : c s = .ok false s1) : mWhileN c b (n + 1) s = .ok .nx s1 := by
  show (mBind c _) s = _
  unfold mBind
  rw [h]
  rfl
theorem whileN_true {T : Type} {c : M T Bool} {b : M T Out} {n : Nat} {s s1 s2 : S T} (h : c s = .ok true s1) (h2 : b s1 = .ok .nx s2) : mWhileN c b (n + 1) s = mWhileN c b n s2 := by
  show (mBind c _) s = _
  unfold mBind
  rw [h]
  show (mBind b _) s1 = _
  unfold mBind
  rw [h2]
theorem gcd_step (x y : Nat) : Nat.gcd x (y + 1) = Nat.gcd (y + 1) (x % (y + 1)) := by
  rw [Nat.gcd_comm x, Nat.gcd_rec (y + 1) x, Nat.gcd_comm]
theorem fnP_ret {k n : Nat} {m : M Unit Out} {ds : List D} {d : D} {s' : S Unit} (hl : ds.length = k) (h : m ⟨env0 k n ds, ()⟩ = .ok (.ret d) s') : fnP k n m ds = .ok d := by
  unfold fnP
  rw [if_pos hl, h]
  rfl
theorem abs_if (i : Int) : (if i < 0 then -i else i) = (i.natAbs : Int) := by split <;> omega
theorem abs_ge (i : Int) : (if 0 ≤ i then i else 0 - i) = (i.natAbs : Int) := by split <;> omega
abbrev frD (p : Int × Int) : D := .tuple [.int p.1, .int p.2]
/-- lowest terms -/
def shareI (n d : Int) : Int × Int := if d < 0 then ((0 - n) / (Int.gcd n d : Int), (0 - d) / (Int.gcd n d : Int)) else (n / (Int.gcd n d : Int), d / (Int.gcd n d : Int))
theorem divOk_of {j : Int} (h0 : 0 < j) (h1 : j.natAbs < 2 ^ 64) : divOk j = true := by
  unfold divOk
  have k : j.natAbs.log2 < 64 := (Nat.log2_lt (by omega)).mpr h1
  exact decide_eq_true ⟨h0, by omega⟩
theorem gcd_pos {n d : Int} (hd : d ≠ 0) : 0 < (Int.gcd n d : Int) := by
  have := Int.gcd_pos_of_ne_zero_right n hd
  omega
theorem gcd_small {n d : Int} (hd : d ≠ 0) (h : d.natAbs < 2 ^ 64) : (Int.gcd n d : Int).natAbs < 2 ^ 64 := by
  have h1 : Int.gcd n d ≤ d.natAbs := Nat.le_of_dvd (by omega) (Int.gcd_dvd_natAbs_right n d)
  have h2 : (Int.gcd n d : Int).natAbs = Int.gcd n d := Int.natAbs_natCast _
  omega
theorem share_neg {n d : Int} (hd : d < 0) : shareI n d = shareI (0 - n) (0 - d) := by
  have g0 : Int.gcd (0 - n) (0 - d) = Int.gcd n d := by rw [Int.zero_sub, Int.zero_sub, Int.neg_gcd, Int.gcd_neg]
  unfold shareI
  rw [if_pos hd, if_neg (by omega), g0]
/-- t + n / d -/
theorem share_plus {t n d : Int} (hd : 0 < d) : shareI (t * (shareI n d).2 + (shareI n d).1 * 1) (1 * (shareI n d).2) = shareI (t * d + n) d := by
  have hg := gcd_pos (n := n) (d := d) (by omega)
  have hdn : ¬ d < 0 := by omega
  have e1 : shareI n d = (n / (Int.gcd n d : Int), d / (Int.gcd n d : Int)) := by unfold shareI; rw [if_neg hdn]
  have dv1 : (Int.gcd n d : Int) ∣ n := Int.gcd_dvd_left n d
  have dv2 : (Int.gcd n d : Int) ∣ d := Int.gcd_dvd_right n d
  have hp : 0 < d / (Int.gcd n d : Int) := Int.ediv_pos_of_pos_of_dvd hd (by omega) dv2
  have g1 : Int.gcd (n / (Int.gcd n d : Int)) (d / (Int.gcd n d : Int)) = 1 := Int.gcd_ediv_gcd_ediv_gcd (by omega)
  have g2 : Int.gcd (t * (d / (Int.gcd n d : Int)) + n / (Int.gcd n d : Int)) (d / (Int.gcd n d : Int)) = 1 := by
    rw [Int.add_comm, Int.gcd_add_mul_right_left]; exact g1
  have g3 : Int.gcd (t * d + n) d = Int.gcd n d := by rw [Int.add_comm, Int.gcd_add_mul_right_left]
  rw [e1]
  dsimp only
  rw [Int.mul_one, Int.one_mul]
  unfold shareI
  rw [if_neg (by omega), if_neg hdn, g2, g3]
  refine Prod.ext ?_ ?_
  · dsimp only
    rw [Int.ofNat_one, Int.ediv_one, Int.add_ediv_of_dvd_right dv1, Int.mul_ediv_assoc t dv2]
  · dsimp only
    rw [Int.ofNat_one, Int.ediv_one]
theorem sq_pos {w h : Int} (n : w ≠ 0 ∨ h ≠ 0) : 0 < w * w + h * h := by
  have p : ∀ z : Int, 0 ≤ z * z := fun z => by
    rcases Int.le_total 0 z with q | q
    · exact Int.mul_nonneg q q
    · exact Int.mul_nonneg_of_nonpos_of_nonpos q q
  have p2 : ∀ z : Int, z ≠ 0 → 0 < z * z := fun z hz => by
    have := p z
    have h2 : z * z ≠ 0 := Int.mul_ne_zero hz hz
    omega
  rcases n with n | n
  · have := p2 w n; have := p h; omega
  · have := p2 h n; have := p w; omega
theorem share_whole {t k : Int} (hk : 0 < k) : shareI (t * k) k = (t, 1) := by
  have g1 : Int.gcd (t * k) k = k.natAbs := by rw [Int.gcd_mul_left_left]
  have g2 : (k.natAbs : Int) = k := by omega
  unfold shareI
  rw [if_neg (by omega), g1, g2, Int.mul_ediv_cancel t (by omega), Int.ediv_self (by omega)]
def Bd (A : Nat) (i : Int) : Prop := i.natAbs ≤ A
theorem Bd.add {A B : Nat} {i j : Int} (h : Bd A i) (k : Bd B j) : Bd (A + B) (i + j) := by unfold Bd at *; omega
theorem Bd.sub {A B : Nat} {i j : Int} (h : Bd A i) (k : Bd B j) : Bd (A + B) (i - j) := by unfold Bd at *; omega
theorem Bd.neg {A : Nat} {i : Int} (h : Bd A i) : Bd A (0 - i) := by unfold Bd at *; omega
theorem Bd.mul {A B : Nat} {i j : Int} (h : Bd A i) (k : Bd B j) : Bd (A * B) (i * j) := by
  unfold Bd at *
  rw [Int.natAbs_mul]
  exact Nat.mul_le_mul h k
theorem Bd.up {A B : Nat} {i : Int} (h : Bd A i) (k : A ≤ B) : Bd B i := Nat.le_trans h k
theorem Bd.ok {A B : Nat} {i j : Int} (h : Bd A i) (k : Bd B j) (hA : A < 2 ^ 64 := by decide) (hB : B < 2 ^ 64 := by decide) : mulOk i j = true := mulOk_of (Nat.lt_of_le_of_lt h hA) (Nat.lt_of_le_of_lt k hB)
theorem Bd.int {A : Nat} {i : Int} (h : -(A : Int) ≤ i) (k : i ≤ A) : Bd A i := by unfold Bd; omega
theorem Bd.lo {A : Nat} {i : Int} (h : Bd A i) : -(A : Int) ≤ i := by unfold Bd at h; omega
theorem Bd.hi {A : Nat} {i : Int} (h : Bd A i) : i ≤ A := by unfold Bd at h; omega
theorem sort_two (p q : Int) : opSorted (.list [.int p, .int q]) = some (.list (if p ≤ q then [.int p, .int q] else [.int q, .int p])) := by
  have e : [p, q].mergeSort (fun a b => decide (a ≤ b)) = if p ≤ q then [p, q] else [q, p] := by
    by_cases h : p ≤ q
    · rw [if_pos h]
      exact (sort_eq (ns := [p, q]) (ns' := [p, q]) (.refl _) (by simp [h])).symm
    · rw [if_neg h]
      exact (sort_eq (ns := [p, q]) (ns' := [q, p]) (.swap _ _ _) (by simp; omega)).symm
  show ((some [p, q]).bind fun ns => if ns.length < 64 then some (PyData.list ((ns.mergeSort fun a b => decide (a ≤ b)).map .int)) else none) = _
  show (if [p, q].length < 64 then some (PyData.list (([p, q].mergeSort fun a b => decide (a ≤ b)).map .int)) else none) = _
  rw [if_pos (by simp), e]
  split <;> rfl
theorem sort_twoT (p q : Int) : opSorted (.list [.int p, .int q]) = some (.list [.int (if p ≤ q then p else q), .int (if p ≤ q then q else p)]) := by
  rw [sort_two]
  split <;> rfl
theorem chainV {T : Type} {s s1 s2 : S T} {fa fb fc : M T D} {a b c : Int} (h1 : fa s = .ok (.int a) s) (h2 : fb s = .ok (.int b) s) (h3 : fc s = .ok (.int c) s) : mChain opLe opLe fa fb fc s = .ok (.bool (decide (a ≤ b) && decide (b ≤ c))) s := by
  rw [e_chain, h1]
  show fCh2 opLe opLe fc (.int a) (fb s) = _
  rw [h2]
  show fIf (mBind fc fun c => mLift (opLe (.int b) c)) (mRet (.bool false)) (.ok (decide (a ≤ b)) s) = _
  cases decide (a ≤ b)
  · rfl
  · show fB (fun c => mLift (opLe (.int b) c)) (fc s) = _
    rw [h3]
    rfl

theorem zipD_map {α β : Type} (f : α → D) (g : β → D) : ∀ (as : List α) (bs : List β), zipD (as.map f) (bs.map g) = (as.zip bs).map fun p => .tuple [f p.1, g p.2]
  | [], _ => by cases ‹List β› <;> rfl
  | _ :: _, [] => rfl
  | a :: as, b :: bs => by
    show .tuple [f a, g b] :: zipD (as.map f) (bs.map g) = _
    rw [zipD_map f g as bs]
    rfl
theorem cut_all (xs : List D) : cutD xs none none = xs := by
  unfold cutD
  simp [HT.sIx]
theorem sIx_one (n : Nat) : HT.sIx (n + 1) 0 (some 1) = 1 := by
  have h := HT.sIx_nat (n + 1) 0 1
  rw [show ((1 : Nat) : Int) = 1 from rfl] at h
  rw [h]
  omega
theorem cut_tail (xs : List D) : cutD xs (some 1) none = xs.tail := by
  unfold cutD
  cases xs with
  | nil => rfl
  | cons d ds =>
    rw [List.length_cons, sIx_one, HT.sIx_none]
    simp
theorem slT_tail (d : D) (ds : List D) : opSl (.tuple (d :: ds)) (some 1) none = some (.tuple ds) := by
  unfold opSl
  dsimp only
  rw [List.length_cons, sIx_one, if_neg (by simp), cut_tail]
  rfl
theorem slL_tail (ds : List D) : opSl (.list ds) (some 1) none = some (.list ds.tail) := by
  show some (PyData.list (cutD ds (some 1) none)) = _
  rw [cut_tail]
def LcIs {T : Type} (vs : List Nat) (e : List Slot) (t : T) (x : Option D) : Res T (Option D) → Prop
  | .ok o s => o = x ∧ wipeE s.env vs = e ∧ s.t = t
  | _ => False
theorem LcIs.of {T : Type} {vs : List Nat} {e : List Slot} {t : T} {x : Option D} {r : Res T (Option D)} (h : LcIs vs e t x r) : ∃ e', r = .ok x ⟨e', t⟩ ∧ wipeE e' vs = e := by
  cases r with
  | ok o s =>
    obtain ⟨rfl, h2, h3⟩ := h
    obtain ⟨se, st⟩ := s
    cases h3
    exact ⟨se, rfl, h2⟩
  | exc c s => exact h.elim
  | stuck => exact h.elim
theorem lcL_any {T α : Type} {vs : List Nat} {f : D → M T (Option D)} {e : List Slot} {t : T} (F : α → D) (G : α → Option D) : ∀ (l : List α) (acc : List D), (∀ a ∈ l, LcIs vs e t (G a) (f (F a) ⟨e, t⟩)) → mLcL vs f (l.map F) acc ⟨e, t⟩ = .ok (acc ++ l.filterMap G) ⟨e, t⟩
  | [], acc, _ => by simp [e_lcN]
  | a :: l, acc, h => by
    obtain ⟨e', h1, h2⟩ := (h a List.mem_cons_self).of
    have ih := fun acc => lcL_any F G l acc fun b hb => h b (List.mem_cons_of_mem _ hb)
    show mLcL vs f (F a :: l.map F) acc ⟨e, t⟩ = _
    rw [e_lcC, h1]
    cases q : G a with
    | none =>
      rw [fLcL_n, h2, ih, List.filterMap_cons_none q]
    | some d =>
      rw [fLcL_s, h2, ih, List.filterMap_cons_some q, List.append_assoc]
      rfl
theorem lcL_map {T α : Type} {vs : List Nat} {f : D → M T (Option D)} {e : List Slot} {t : T} (F G : α → D) (l : List α) (acc : List D) (h : ∀ a ∈ l, LcIs vs e t (some (G a)) (f (F a) ⟨e, t⟩)) : mLcL vs f (l.map F) acc ⟨e, t⟩ = .ok (acc ++ l.map G) ⟨e, t⟩ := by
  rw [lcL_any F (fun a => some (G a)) l acc h, List.filterMap_eq_map']
theorem filterMap_if {α β : Type} (p : α → Bool) (G : α → β) : ∀ l : List α, (l.filterMap fun a => if p a = true then some (G a) else none) = (l.filter p).map G
  | [] => rfl
  | a :: l => by
    by_cases q : p a = true
    · rw [List.filterMap_cons_some (b := G a) (by rw [if_pos q]), filterMap_if p G l, List.filter_cons_of_pos q]; rfl
    · rw [List.filterMap_cons_none (by rw [if_neg q]), filterMap_if p G l, List.filter_cons_of_neg q]
theorem lcL_filter {T α : Type} {vs : List Nat} {f : D → M T (Option D)} {e : List Slot} {t : T} (F G : α → D) (p : α → Bool) (l : List α) (acc : List D) (h : ∀ a ∈ l, LcIs vs e t (if p a = true then some (G a) else none) (f (F a) ⟨e, t⟩)) : mLcL vs f (l.map F) acc ⟨e, t⟩ = .ok (acc ++ (l.filter p).map G) ⟨e, t⟩ := by
  rw [lcL_any F (fun a => if p a = true then some (G a) else none) l acc h, filterMap_if]
theorem dBools_map {α : Type} (p : α → Bool) : ∀ l : List α, dBools (l.map fun a => .bool (p a)) = some (l.map p)
  | [] => rfl
  | a :: l => by
    show (dBools (l.map fun a => .bool (p a))).map (p a :: ·) = _
    rw [dBools_map p l]
    rfl
theorem dInts_map {α : Type} (p : α → Int) : ∀ l : List α, dInts (l.map fun a => .int (p a)) = some (l.map p)
  | [] => rfl
  | a :: l => by
    show (dInts (l.map fun a => .int (p a))).map (p a :: ·) = _
    rw [dInts_map p l]
    rfl
theorem all_map {α : Type} (p : α → Bool) (l : List α) : opAll (.list (l.map fun a => .bool (p a))) = some (.bool (l.all p)) := by
  rw [ev_all, dBools_map]
  simp [List.all_map, Function.comp_def]
theorem any_map {α : Type} (p : α → Bool) (l : List α) : opAny (.list (l.map fun a => .bool (p a))) = some (.bool (l.any p)) := by
  rw [ev_any, dBools_map]
  simp [List.any_map, Function.comp_def]
theorem sum_map {α : Type} (p : α → Int) (l : List α) : opSum (.list (l.map fun a => .int (p a))) = some (.int (l.map p).sum) := by
  rw [ev_sum, dInts_map]
  rfl
theorem enumD_map {α : Type} (f : α → D) : ∀ (l : List α) (i : Int), enumD i (l.map f) = (l.zipIdx).map fun p => .tuple [.int (i + (p.2 : Nat)), f p.1] := by
  have key : ∀ (l : List α) (i : Int) (k : Nat), enumD (i + (k : Nat)) (l.map f) = (l.zipIdx k).map fun p => .tuple [.int (i + (p.2 : Nat)), f p.1] := by
    intro l
    induction l with
    | nil => intro i k; rfl
    | cons a l ih =>
      intro i k
      show .tuple [.int (i + (k : Nat)), f a] :: enumD (i + (k : Nat) + 1) (l.map f) = _
      have e : i + (k : Nat) + 1 = i + ((k + 1 : Nat) : Int) := by omega
      rw [e, ih i (k + 1)]
      rfl
  intro l i
  have := key l i 0
  simpa using this
theorem ix_lastT {xs : List D} {d : D} : opIx (.tuple (xs ++ [d])) (.int (-1)) = some d := by
  show atI (xs ++ [d]) (-1) = some d
  unfold atI ixN
  have e : ((xs ++ [d]).length : Int) + -1 = (xs.length : Nat) := by simp; omega
  rw [if_neg (by omega), if_pos (by simp; omega)]
  have e2 : (-1 + ((xs ++ [d]).length : Int)).toNat = xs.length := by simp; omega
  simp only [e2]
  simp
theorem ix_lastL {xs : List D} {d : D} : opIx (.list (xs ++ [d])) (.int (-1)) = some d := by
  show atI (xs ++ [d]) (-1) = some d
  unfold atI ixN
  have e : ((xs ++ [d]).length : Int) + -1 = (xs.length : Nat) := by simp; omega
  rw [if_neg (by omega), if_pos (by simp; omega)]
  have e2 : (-1 + ((xs ++ [d]).length : Int)).toNat = xs.length := by simp; omega
  simp only [e2]
  simp
theorem ixL_of {xs : List D} {i : Nat} {d : D} (h : xs[i]? = some d) : opIx (.list xs) (.int (i : Int)) = some d := by
  show atI xs i = some d
  have hl : i < xs.length := by
    rcases Nat.lt_or_ge i xs.length with z | z
    · exact z
    · rw [List.getElem?_eq_none z] at h; cases h
  unfold atI ixN
  rw [if_pos (by omega), if_pos (by omega)]
  simpa using h
theorem ixT_of {xs : List D} {i : Nat} {d : D} (h : xs[i]? = some d) : opIx (.tuple xs) (.int (i : Int)) = some d := ixL_of h
theorem rangeL_zero (n : Nat) : rangeL 0 (n : Int) = (List.range n).map fun (i : Nat) => .int (i : Nat) := by
  unfold rangeL
  rw [show ((n : Int) - 0).toNat = n by omega]
  exact List.map_congr_left fun i _ => by rw [Int.zero_add]
/-- data that == may look at -/
def Sh (n : Nat) (d : D) : Prop := d.canLay0 = true ∧ d.depth ≤ n
def ShAll (n : Nat) (ds : List D) : Prop := PyData.canLayAll0 ds = true ∧ PyData.depthAll ds ≤ n
theorem Sh.int (n : Nat) (i : Int) : Sh n (.int i) := ⟨by unfold PyData.canLay0; rfl, by unfold PyData.depth; exact Nat.zero_le _⟩
theorem Sh.bool (n : Nat) (b : Bool) : Sh n (.bool b) := ⟨by unfold PyData.canLay0; rfl, by unfold PyData.depth; exact Nat.zero_le _⟩
theorem Sh.none (n : Nat) : Sh n .none := ⟨by unfold PyData.canLay0; rfl, by unfold PyData.depth; exact Nat.zero_le _⟩
theorem ShAll.nil (n : Nat) : ShAll n [] := ⟨by unfold PyData.canLayAll0; rfl, by unfold PyData.depthAll; exact Nat.zero_le _⟩
theorem ShAll.cons {n : Nat} {d : D} {ds : List D} (h : Sh n d) (k : ShAll n ds) : ShAll n (d :: ds) := ⟨by unfold PyData.canLayAll0; rw [h.1, k.1]; rfl, by unfold PyData.depthAll; exact Nat.max_le.mpr ⟨h.2, k.2⟩⟩
theorem ShAll.of {n : Nat} : ∀ {ds : List D}, (∀ d ∈ ds, Sh n d) → ShAll n ds
  | [], _ => .nil n
  | d :: ds, h => .cons (h d List.mem_cons_self) (.of fun x hx => h x (List.mem_cons_of_mem _ hx))
theorem Sh.tup {n : Nat} {ds : List D} (h : ShAll n ds) : Sh (n + 1) (.tuple ds) := ⟨by unfold PyData.canLay0; exact h.1, by unfold PyData.depth; exact Nat.succ_le_succ h.2⟩
theorem Sh.lst {n : Nat} {ds : List D} (h : ShAll n ds) : Sh (n + 1) (.list ds) := ⟨by unfold PyData.canLay0; exact h.1, by unfold PyData.depth; exact Nat.succ_le_succ h.2⟩
theorem Sh.lstm {n : Nat} {α : Type} {f : α → D} {l : List α} (h : ∀ a ∈ l, Sh n (f a)) : Sh (n + 1) (.list (l.map f)) := .lst (.of fun d hd => by
  obtain ⟨a, ha, rfl⟩ := List.mem_map.mp hd
  exact h a ha)
theorem Sh.tupm {n : Nat} {α : Type} {f : α → D} {l : List α} (h : ∀ a ∈ l, Sh n (f a)) : Sh (n + 1) (.tuple (l.map f)) := .tup (.of fun d hd => by
  obtain ⟨a, ha, rfl⟩ := List.mem_map.mp hd
  exact h a ha)
theorem Sh.up {n m : Nat} {d : D} (h : Sh n d) (k : n ≤ m) : Sh m d := ⟨h.1, Nat.le_trans h.2 k⟩
theorem Sh.ok {n : Nat} {d : D} (h : Sh n d) (k : n ≤ 64 := by decide) : SeqAt.shaped d = true := by
  unfold SeqAt.shaped
  rw [h.1, decide_eq_true (Nat.le_trans h.2 k)]
  rfl
theorem Sh.eqv {n : Nat} {d : D} (h : Sh n d) : PyData.eqv d d = true := SeqAt.eqv_refl d h.1
theorem opEq_self {n : Nat} {d : D} (h : Sh n d) (k : n ≤ 64 := by decide) : opEq d d = some (.bool true) := opEq_of (h.ok k) (h.ok k) h.eqv
theorem opNe_self {n : Nat} {d : D} (h : Sh n d) (k : n ≤ 64 := by decide) : opNe d d = some (.bool false) := opNe_of (h.ok k) (h.ok k) h.eqv
theorem sh_fr (a : Int × Int) : Sh 1 (frD a) := .tup (.cons (.int 0 _) (.cons (.int 0 _) (.nil 0)))
theorem pairwise_zip {α : Type} {R : α → α → Prop} : ∀ {l : List α}, l.Pairwise R → ∀ z ∈ l.zip l.tail, R z.1 z.2
  | [], _, z, hz => by cases hz
  | [a], _, z, hz => by cases hz
  | a :: b :: l, h, z, hz => by
    rw [List.pairwise_cons] at h
    have hz2 : z ∈ (a, b) :: (b :: l).zip l := hz
    rcases List.mem_cons.mp hz2 with q | q
    · rw [q]; exact h.1 b List.mem_cons_self
    · exact pairwise_zip (l := b :: l) h.2 z q
end Pm

set_option Elab.async false
set_option linter.all false
set_option maxRecDepth 100000
set_option maxHeartbeats 4000000
/-! More pure lemmas: loops that keep a shape, slices, sums. -/
namespace Pm
open PySem L2 RZ
theorem forL_keep {T σ : Type} {f : D → M T Out} (st : σ → S T) : ∀ (ds : List D), (∀ d ∈ ds, ∀ x, ∃ y, f d (st x) = .ok .nx (st y) ∨ f d (st x) = .ok .ct (st y)) → ∀ x, ∃ y, mForL f ds (st x) = .ok .nx (st y)
  | [], _, x => ⟨x, rfl⟩
  | d :: ds, h, x => by
    obtain ⟨y, hy⟩ := h d List.mem_cons_self x
    obtain ⟨z, hz⟩ := forL_keep st ds (fun e he => h e (List.mem_cons_of_mem _ he)) y
    refine ⟨z, ?_⟩
    rw [e_forC]
    rcases hy with hy | hy
    · rw [hy, fLoop_nx, hz]
    · rw [hy, fLoop_ct, hz]
/-- a loop that folds a value -/
theorem forL_fold {T σ α : Type} {f : D → M T Out} (st : σ → α → S T) (F : α → D → α) (P : α → Prop) : ∀ (ds : List D) (a : α), P a → (∀ d ∈ ds, ∀ x a, P a → P (F a d) ∧ ∃ y, f d (st x a) = .ok .nx (st y (F a d)) ∨ f d (st x a) = .ok .ct (st y (F a d))) → ∀ x, ∃ y, mForL f ds (st x a) = .ok .nx (st y (ds.foldl F a))
  | [], a, _, _, x => ⟨x, rfl⟩
  | d :: ds, a, ha, h, x => by
    obtain ⟨p, y, hy⟩ := h d List.mem_cons_self x a ha
    obtain ⟨z, hz⟩ := forL_fold st F P ds (F a d) p (fun e he => h e (List.mem_cons_of_mem _ he)) y
    refine ⟨z, ?_⟩
    rw [e_forC, List.foldl_cons]
    rcases hy with hy | hy
    · rw [hy, fLoop_nx, hz]
    · rw [hy, fLoop_ct, hz]
theorem sIx_k (n d k : Nat) : HT.sIx n d (some (k : Int)) = min k n := HT.sIx_nat n d k
theorem slT_take {xs : List D} {k : Nat} (h : k < xs.length) : opSl (.tuple xs) none (some (k : Int)) = some (.tuple (xs.take k)) := by
  unfold opSl cutD
  dsimp only
  rw [sIx_k, HT.sIx_none, if_neg (by omega)]
  rw [Nat.min_eq_left (by omega)]
  simp
theorem slT_drop {xs : List D} {k : Nat} (h : 0 < k) (h2 : k ≤ xs.length) : opSl (.tuple xs) (some (k : Int)) none = some (.tuple (xs.drop k)) := by
  unfold opSl cutD
  dsimp only
  rw [sIx_k, HT.sIx_none, if_neg (by omega)]
  rw [Nat.min_eq_left (by omega)]
  congr 2
  exact List.take_of_length_le (by simp)
theorem slL_take {xs : List D} {k : Nat} : opSl (.list xs) none (some (k : Int)) = some (.list (xs.take k)) := by
  unfold opSl cutD
  dsimp only
  rw [sIx_k, HT.sIx_none]
  simp only [List.drop_zero, Nat.sub_zero]
  congr 2
  rcases Nat.le_total k xs.length with h | h
  · rw [Nat.min_eq_left h]
  · rw [Nat.min_eq_right h, List.take_length, List.take_of_length_le h]
theorem slL_drop {xs : List D} {k : Nat} (h2 : k ≤ xs.length) : opSl (.list xs) (some (k : Int)) none = some (.list (xs.drop k)) := by
  unfold opSl cutD
  dsimp only
  rw [sIx_k, HT.sIx_none, Nat.min_eq_left h2]
  congr 2
  exact List.take_of_length_le (by simp)
theorem addL {xs ys : List D} (h : xs.length + ys.length ≤ lim) : opAdd (.list xs) (.list ys) = some (.list (xs ++ ys)) := if_pos h
theorem addT {x : D} {xs ys : List D} (h : xs.length + 1 + ys.length ≤ lim) : opAdd (.tuple (x :: xs)) (.tuple ys) = some (.tuple (x :: xs ++ ys)) := if_pos h
theorem mem_rangeL {lo hi : Int} {d : D} (h : d ∈ rangeL lo hi) : ∃ i : Nat, d = .int (lo + i) ∧ lo + i < hi := by
  unfold rangeL at h
  obtain ⟨i, hi, rfl⟩ := List.mem_map.mp h
  rw [List.mem_range] at hi
  exact ⟨i, rfl, by omega⟩
theorem rangeL_length (lo hi : Int) : (rangeL lo hi).length = (hi - lo).toNat := by unfold rangeL; simp
end Pm

set_option Elab.async false
set_option linter.all false
set_option maxRecDepth 100000
/-! Calls with keywords, with defaults. -/
namespace Pm
open PySem L2 RZ
open PySem.Spec PyProof.Rows in
section
variable {X : Cx} {CX : CXT} {k n : Nat} {f : Addr} {fd : FuncData} {ps ks : List Str} {sp : Sp} {E : L2.St → XK} {x : Str} {p pos : Pos} {e : Expr} {es : List Expr} {kws : List Keyword} {t tk : TA} {g : List Value → List Value → List Value} {gV : List V → List V → List V}
def tCallNS (n m : Nat) (sp : Sp) (gV : List V → List V → List V) (E : L2.St → XK) (t tk : TA) : TE := fun σ H Q => t σ H fun vs H1 => tk σ H1 fun zs H2 => vs.length = n ∧ zs.length = m ∧ sp (gV vs zs) H2 Q (E σ)
theorem run_fnNS {pins : List (Addr × Obj)} {σ : L2.St} {H : Hp} {s : Shared} {Q : VK} {us ws : List Value} {vs zs : List V} (F : FnOk X.prog X.w X.K X.mg X.base CX k f fd ps sp) (hr : Room k X.A) (hb : KBn X.K fd ps n ks g gV) (hx : PassesAt CX X σ (E σ))
    (I : Inv X pins σ H s) (r : Vals vs us) (rz : Vals zs ws) (l1 : vs.length = n) (l2 : zs.length = ks.length) (h : sp (gV vs zs) H Q (E σ)) : wpAny (model X.prog X.w) X.A (call (.ref f) us (ks.zip ws)) (EP X pins σ Q) X.xe s := by
  have r2 := hb.rel r rz
  refine wpAny_call (codeAny_mono (F.run X.A X.stack s H ⟨us, ks.zip ws⟩ (g us ws) (gV vs zs) Q (E σ) hr I.env0 (hb.to s us ws I.kIn (r.length.symm.trans l1) (rz.length.symm.trans l2)) r2 h) fun r s' hq => ?_)
  cases r with
  | error e => exact hx pins H s e s' I hq
  | ok fl =>
    cases fl with
    | ret u => exact I.after hq
    | next => exact False.elim hq
    | brk => exact False.elim hq
    | cont => exact False.elim hq
theorem pe_callNS (F : FnOk X.prog X.w X.K X.mg X.base CX k f fd ps sp) (hr : Room k X.A) (hg : Gl X x) (hm : X.mg x = some (.ref f)) (hk : PySem.W.keepIn X.K (.ref f) = true) (hb : KBn X.K fd ps n ks g gV) (hx : ∀ σ, PassesAt CX X σ (E σ))
    (ha : PA X (e :: es) t) (hkw : PK X kws tk) (hall : (backToKw pos (keywordEach kws X.env)).all (·.1.isSome) = true := by rfl) (hks : (backToKw pos (keywordEach kws X.env)).filterMap (·.1) = ks := by rfl)
    (hdb : (x == ("__debug__" : Str)) = false := by decide) (he : starEach (e :: es) X.env = (false, eval e X.env) :: starEach es X.env := by rfl)
    (hpl : ((backTo pos (starEach (e :: es) X.env)).any (·.1) || (backToKw pos (keywordEach kws X.env)).any (·.1.isNone)) = false := by rfl) :
    PE X (.Call (.Name x p) (e :: es) kws pos) (tCallNS n ks.length sp gV E t tk) := by
  refine ⟨fun pins s σ H Q I h => ?_⟩
  refine wpAny_Call_Name_kw (ld_glob I hg hm ?_ hdb)
  refine PySem.W.callWith_KW (h₀ := X.base) I.ok.mod.kin hk hall (thn (ha.run pos pins s σ H _ I h) fun us s1 ⟨vs, H1, I1, r, q⟩ => ?_) hpl he
  refine thn (hkw.run pos pins s1 σ H1 _ I1 q) fun ws s2 ⟨zs, H2, I2, rz, l1, l2, q2⟩ => ⟨I2.kIn, ?_⟩
  rw [hks]
  exact run_fnNS F hr hb (hx σ) I2 r rz l1 l2 q2
end
/-- f(e, .., k = v, ..): the keywords in the parameters' order -/
def mCallK {T : Type} (n m : Nat) (f : List D → Rp) (fr fk : M T (List D)) : M T D := mBind fr fun ds => mBind fk fun es s => if ds.length = n ∧ es.length = m then (match f (ds ++ es) with
  | .ok d => .ok d s
  | .exc c => .exc c s
  | .stuck => .stuck) else .stuck
/-- defaults fill up -/
def mCallD {T : Type} (f : List D → Rp) (dd : List D) (fr : M T (List D)) : M T D := mCall (fun ds => f (ds ++ dd)) fr
section
variable {T : Type} {C : Ct T} {W : WX} {F0 H0 F F1 H : Hp} {L : Nat → Option Addr} {s : S T} {σ : L2.St} {α β : Type}
theorem sv_callK {f : List D → Rp} {n m : Nat} {tr tk : TA} {fr fk : M T (List D)} (ha : Sa C W tr fr) (hb : Sa C W tk fk) : Sv C W (tCallNS n m (spP C.K C.cls f) (fun vs zs => vs ++ zs) (WE W) tr tk) (mCallK n m f fr fk) := by
  intro F0 H0 L s σ F H Q g h
  refine ha _ _ _ _ _ _ _ _ g (po_imp (po_bind h) fun ds s1 F1 H1 g1 e1 h1 vs rv => ?_)
  refine hb _ _ _ _ _ _ _ _ g1 (po_imp (po_bind h1) fun es s2 F2 H2 g2 e2 h2 zs rz => ?_)
  by_cases hl : ds.length = n ∧ es.length = m
  · rw [if_pos hl] at h2
    refine ⟨rv.length.trans hl.1, rz.length.trans hl.2, F2, ds ++ es, g2.sub, (rv.mono e2).append rz, ?_⟩
    cases q : f (ds ++ es) with
    | ok d =>
      simp only [q] at h2
      exact fun v F' H' a r => h2 F' H' (g2.aft a) a.ex v r
    | exc c =>
      simp only [q] at h2
      exact fun F' H' a => h2 F' H' (g2.aft a) a.ex
    | stuck => simp only [q] at h2; exact h2.elim
  · rw [if_neg hl] at h2; exact h2.elim
theorem sv_callD {f : List D → Rp} {dvs : List V} {dd : List D} {tr : TA} {fr : M T (List D)} (hd : ∀ F, RepL C.K F dvs dd) (ha : Sa C W tr fr) : Sv C W (tCallSD (spP C.K C.cls f) dvs (WE W) tr) (mCallD f dd fr) := by
  intro F0 H0 L s σ F H Q g h
  refine ha _ _ _ _ _ _ _ _ g (po_imp (po_bind h) fun ds s1 F1 H1 g1 e1 h1 vs rv => ?_)
  refine ⟨F1, ds ++ dd, g1.sub, rv.append (hd F1), ?_⟩
  cases q : f (ds ++ dd) with
  | ok d =>
    simp only [q] at h1
    exact fun v F' H' a r => h1 F' H' (g1.aft a) a.ex v r
  | exc c =>
    simp only [q] at h1
    exact fun F' H' a => h1 F' H' (g1.aft a) a.ex
  | stuck => simp only [q] at h1; exact h1.elim
end
def StdK (K : PySem.W.Frag) (mg : Str → Option Value) (x : Str) (st : Stmt) (ps : List Str) (n : Nat) (ks : List Str) : Prop := ∃ (f : Addr) (fd : FuncData), Fun K x x st f fd ∧ mg x = some (.ref f) ∧ KBn K fd ps n ks (fun us ws => us ++ ws) (fun vs zs => vs ++ zs)
def StdD (K : PySem.W.Frag) (mg : Str → Option Value) (x : Str) (st : Stmt) (ps : List Str) (dvs : List V) : Prop := ∃ (f : Addr) (fd : FuncData) (ds : List Value), Fun K x x st f fd ∧ mg x = some (.ref f) ∧ Binds K fd ps ds ∧ Vals dvs ds
structure DefK (P : Program) (w : World) (K : PySem.W.Frag) (mg : Str → Option Value) (base : Heap) (cls : Nat → Addr) (x : Str) (k : Nat) (ps : List Str) (n : Nat) (ks : List Str) (g : List D → Rp) : Prop where
  ok : ∃ (f : Addr) (fd : FuncData), FnOk P w K mg base (L2.CX P w) k f fd ps (spP K cls g) ∧ mg x = some (.ref f) ∧ PySem.W.keepIn K (.ref f) = true ∧ KBn K fd ps n ks (fun us ws => us ++ ws) (fun vs zs => vs ++ zs)
structure DefDf (P : Program) (w : World) (K : PySem.W.Frag) (mg : Str → Option Value) (base : Heap) (cls : Nat → Addr) (x : Str) (k : Nat) (ps : List Str) (dvs : List V) (g : List D → Rp) : Prop where
  ok : ∃ (f : Addr) (fd : FuncData) (ds : List Value), FnOk P w K mg base (L2.CX P w) k f fd ps (spP K cls g) ∧ mg x = some (.ref f) ∧ PySem.W.keepIn K (.ref f) = true ∧ Binds K fd ps ds ∧ Vals dvs ds
section
variable {P : Program} {w : World} {K : PySem.W.Frag} {mg : Str → Option Value} {base : Heap} {cls : Nat → Addr}
theorem okDK {x : Str} {st : Stmt} {N ps ks : List Str} {n k : Nat} {m : M Unit Out} {g : List D → Rp} (h : StdK K mg x st ps n ks) (S : FnScope N ps (defScope st)) (hg : g = fnP ps.length N.length m)
    (hbody : ∀ (f : Addr) (cdv : Value) (A : Around) (outer : List Env) (s : Shared) (H : Hp) (E : XK), Room k (A.deeper (PyProof.Rows.envOfC x (defScope st) s.heap.objs.size f cdv)) →
      ∃ t, PSs (cxOf (L2.CX P w) P w K mg base N x (defScope st) f cdv A outer s H E) (defBody st) t ∧ Sb (CU K cls) (WofE E) t m) : DefK P w K mg base cls x (k + 1) ps n ks g := by
  obtain ⟨f, fd, F, hm, hb⟩ := h
  subst hg
  exact ⟨f, fd, okP F S (hbody f), hm, F.kp, hb⟩
theorem okDD {x : Str} {st : Stmt} {N ps : List Str} {dvs : List V} {k : Nat} {m : M Unit Out} {g : List D → Rp} (h : StdD K mg x st ps dvs) (S : FnScope N ps (defScope st)) (hg : g = fnP ps.length N.length m)
    (hbody : ∀ (f : Addr) (cdv : Value) (A : Around) (outer : List Env) (s : Shared) (H : Hp) (E : XK), Room k (A.deeper (PyProof.Rows.envOfC x (defScope st) s.heap.objs.size f cdv)) →
      ∃ t, PSs (cxOf (L2.CX P w) P w K mg base N x (defScope st) f cdv A outer s H E) (defBody st) t ∧ Sb (CU K cls) (WofE E) t m) : DefDf P w K mg base cls x (k + 1) ps dvs g := by
  obtain ⟨f, fd, ds, F, hm, hb, hv⟩ := h
  subst hg
  exact ⟨f, fd, ds, okP F S (hbody f), hm, F.kp, hb, hv⟩
end
structure DK {T : Type} (X : Cx) (C : Ct T) (W : WX) (kws : List Keyword) (t : TA) (f : M T (List D)) : Prop where
  pe : PK X kws t
  sv : Sa C W t f
section
variable {T : Type} {X : Cx} {C : Ct T} {W : WX} {k : Nat} {cls : Nat → Addr} {K : PySem.W.Frag} {a e : Expr} {es : List Expr} {pos p kpos : Pos} {ta : TE} {fa : M T D} {tr tk : TA} {fr fk : M T (List D)} {kws : List Keyword} {nm : Option Str}
theorem dk_nil : DK X C W [] tNil (mRet []) := ⟨pk_nil, sa_nil⟩
theorem dk_cons (ha : DV X C W a ta fa) (hr : DK X C W kws tk fk) : DK X C W (⟨nm, a, kpos⟩ :: kws) (tCons ta tk) (mCons fa fk) := ⟨pk_cons ha.pe hr.pe, sa_cons ha.sv hr.sv⟩
theorem dv_callK {k' n : Nat} {x : Str} {ps ks : List Str} {g : List D → Rp} (q : Cur X C W k cls K) (F : DefK X.prog X.w X.K X.mg X.base cls x k' ps n ks g) (hk : k' ≤ k) (ha : DA X C W (e :: es) tr fr) (hkw : DK X C W kws tk fk) (hg : Gl X x := by rfl)
    (hall : (backToKw pos (keywordEach kws X.env)).all (·.1.isSome) = true := by rfl) (hks : (backToKw pos (keywordEach kws X.env)).filterMap (·.1) = ks := by rfl)
    (hdb : (x == ("__debug__" : Str)) = false := by decide) (he : starEach (e :: es) X.env = (false, eval e X.env) :: starEach es X.env := by rfl)
    (hpl : ((backTo pos (starEach (e :: es) X.env)).any (·.1) || (backToKw pos (keywordEach kws X.env)).any (·.1.isNone)) = false := by rfl) :
    DV X C W (.Call (.Name x p) (e :: es) kws pos) (tCallNS n ks.length (spP K cls g) (fun vs zs => vs ++ zs) (WE W) tr tk) (mCallK n ks.length g fr fk) := by
  obtain ⟨f, fd, F1, m, kp, b⟩ := F.ok
  refine ⟨?_, by rw [← q.hK, ← q.hc]; exact sv_callK ha.sv hkw.sv⟩
  rw [← q.hX]
  exact pe_callNS F1 (q.hr.mono hk) hg m kp b (fun σ => passAt q.tk σ) ha.pe hkw.pe hall hks hdb he hpl
theorem dv_callD {k' : Nat} {x : Str} {ps : List Str} {dvs : List V} {dd : List D} {g : List D → Rp} (q : Cur X C W k cls K) (F : DefDf X.prog X.w X.K X.mg X.base cls x k' ps dvs g) (hk : k' ≤ k) (hd : ∀ F, RepL K F dvs dd) (ha : DA X C W (e :: es) tr fr) (hg : Gl X x := by rfl)
    (hdb : (x == ("__debug__" : Str)) = false := by decide) (he : starEach (e :: es) X.env = (false, eval e X.env) :: starEach es X.env := by rfl) (hpl : (backTo pos (starEach es X.env)).any (·.1) = false := by rfl) :
    DV X C W (.Call (.Name x p) (e :: es) [] pos) (tCallSD (spP K cls g) dvs (WE W) tr) (mCallD g dd fr) := by
  obtain ⟨f, fd, ds, F1, m, kp, b, hv⟩ := F.ok
  refine ⟨?_, by rw [← q.hK, ← q.hc]; exact sv_callD (by rw [q.hK]; exact hd) ha.sv⟩
  rw [← q.hX]
  exact pe_callSD F1 (q.hr.mono hk) hg m kp b hv (fun σ => passAt q.tk σ) ha.pe hdb he hpl
end
end Pm

set_option Elab.async false
set_option linter.all false
set_option maxRecDepth 100000
/-! in, not in: lists and tuples of nested data. -/
namespace Pm
open PySem L2 RZ
def deepOk (d : D) (ds : List D) : Bool := d.canLay0 && decide (d.depth ≤ 32) && PyData.canLayAll0 ds
def opIn2 (x y : D) : Option D := match opIn x y with
  | some d => some d
  | none => match y with
    | .list ds => if deepOk x ds = true then some (.bool (ds.any fun z => PyData.eqv z x)) else none
    | .tuple ds => if deepOk x ds = true then some (.bool (ds.any fun z => PyData.eqv z x)) else none
    | _ => none
def opNotIn2 (x y : D) : Option D := match opNotIn x y with
  | some d => some d
  | none => match y with
    | .list ds => if deepOk x ds = true then some (.bool (!ds.any fun z => PyData.eqv z x)) else none
    | .tuple ds => if deepOk x ds = true then some (.bool (!ds.any fun z => PyData.eqv z x)) else none
    | _ => none
abbrev rIn2 (K : PySem.W.Frag) : R2 := fun x y H Q => ∃ d ds, Dp K H x d ∧ (Dp K H y (.list ds) ∨ Dp K H y (.tuple ds)) ∧ deepOk d ds = true ∧ Q (.bl (ds.any fun z => PyData.eqv z d)) H
abbrev rNotIn2 (K : PySem.W.Frag) : R2 := fun x y H Q => ∃ d ds, Dp K H x d ∧ (Dp K H y (.list ds) ∨ Dp K H y (.tuple ds)) ∧ deepOk d ds = true ∧ Q (.bl (!ds.any fun z => PyData.eqv z d)) H
theorem deepOk_of {d : D} {ds : List D} (h : deepOk d ds = true) : d.canLay0 = true ∧ d.depth ≤ 32 ∧ PyData.canLayAll0 ds = true := by
  unfold deepOk at h
  rw [Bool.and_eq_true, Bool.and_eq_true] at h
  exact ⟨h.1.1, of_decide_eq_true h.1.2, h.2⟩
section
variable {X : Cx}
open PySem.Spec PyProof.Rows in
theorem op_in2 (hu : X.A.units + 64 < cLine) : OpR X (compareOp .In) (rIn2 X.K) := by
  intro pins s σ H x y v u Q I rx ry h
  obtain ⟨d, ds, hd, he, ok, q⟩ := h
  obtain ⟨o1, o2, o3⟩ := (deepOk_of ok)
  obtain ⟨as, r1⟩ := Dp.reads I d x v hd rx
  have hr : X.A.units + 1 + min (PyData.depthAll ds) d.depth < cLine := by
    have : min (PyData.depthAll ds) d.depth ≤ d.depth := Nat.min_le_right _ _
    omega
  rcases he with he | he
  · obtain ⟨bs, r2⟩ := Dp.reads I (.list ds) y u he ry
    exact SeqAt.in_list_reads r2 r1 o3 o1 hr ⟨.bl _, H, I, rfl, q⟩
  · obtain ⟨bs, r2⟩ := Dp.reads I (.tuple ds) y u he ry
    exact SeqAt.in_tuple_reads r2 r1 o3 o1 hr ⟨.bl _, H, I, rfl, q⟩
open PySem.Spec PyProof.Rows in
theorem op_notin2 (hu : X.A.units + 64 < cLine) : OpR X (compareOp .NotIn) (rNotIn2 X.K) := by
  intro pins s σ H x y v u Q I rx ry h
  obtain ⟨d, ds, hd, he, ok, q⟩ := h
  obtain ⟨o1, o2, o3⟩ := (deepOk_of ok)
  obtain ⟨as, r1⟩ := Dp.reads I d x v hd rx
  have hr : X.A.units + 1 + min (PyData.depthAll ds) d.depth < cLine := by
    have : min (PyData.depthAll ds) d.depth ≤ d.depth := Nat.min_le_right _ _
    omega
  rcases he with he | he
  · obtain ⟨bs, r2⟩ := Dp.reads I (.list ds) y u he ry
    exact SeqAt.notIn_list_reads r2 r1 o3 o1 hr ⟨.bl _, H, I, rfl, q⟩
  · obtain ⟨bs, r2⟩ := Dp.reads I (.tuple ds) y u he ry
    exact SeqAt.notIn_tuple_reads r2 r1 o3 o1 hr ⟨.bl _, H, I, rfl, q⟩
end
section
variable {T : Type} {C : Ct T}
theorem canLay_list {ds : List D} (h : PyData.canLayAll0 ds = true) : PyData.canLay0 (.list ds) = true := by unfold PyData.canLay0; exact h
theorem canLay_tuple {ds : List D} (h : PyData.canLayAll0 ds = true) : PyData.canLay0 (.tuple ds) = true := by unfold PyData.canLay0; exact h
theorem rv_in2 : Rv C (rOr (rInD C.K) (rIn2 C.K)) opIn2 := by
  intro F0 H0 L s σ F H x y a b Q g rx ry h
  unfold opIn2 at h
  cases e : opIn a b with
  | some d => exact .inl (rv_in _ _ _ _ _ _ _ _ _ _ _ _ g rx ry (by rw [e]; rw [e] at h; exact h))
  | none =>
    rw [e] at h
    dsimp only at h
    refine .inr ?_
    cases b with
    | list ds =>
      dsimp only at h
      by_cases ok : deepOk a ds = true
      · rw [if_pos ok] at h
        exact ⟨a, ds, rx.dp g.sub (deepOk_of ok).1, .inl (ry.dp g.sub (canLay_list (deepOk_of ok).2.2)), ok, rv_end g h (.bl _)⟩
      · rw [if_neg ok] at h; exact h.elim
    | tuple ds =>
      dsimp only at h
      by_cases ok : deepOk a ds = true
      · rw [if_pos ok] at h
        exact ⟨a, ds, rx.dp g.sub (deepOk_of ok).1, .inr (ry.dp g.sub (canLay_tuple (deepOk_of ok).2.2)), ok, rv_end g h (.bl _)⟩
      · rw [if_neg ok] at h; exact h.elim
    | _ => exact h.elim
theorem rv_notin2 : Rv C (rOr (rNotInD C.K) (rNotIn2 C.K)) opNotIn2 := by
  intro F0 H0 L s σ F H x y a b Q g rx ry h
  unfold opNotIn2 at h
  cases e : opNotIn a b with
  | some d => exact .inl (rv_notin _ _ _ _ _ _ _ _ _ _ _ _ g rx ry (by rw [e]; rw [e] at h; exact h))
  | none =>
    rw [e] at h
    dsimp only at h
    refine .inr ?_
    cases b with
    | list ds =>
      dsimp only at h
      by_cases ok : deepOk a ds = true
      · rw [if_pos ok] at h
        exact ⟨a, ds, rx.dp g.sub (deepOk_of ok).1, .inl (ry.dp g.sub (canLay_list (deepOk_of ok).2.2)), ok, rv_end g h (.bl _)⟩
      · rw [if_neg ok] at h; exact h.elim
    | tuple ds =>
      dsimp only at h
      by_cases ok : deepOk a ds = true
      · rw [if_pos ok] at h
        exact ⟨a, ds, rx.dp g.sub (deepOk_of ok).1, .inr (ry.dp g.sub (canLay_tuple (deepOk_of ok).2.2)), ok, rv_end g h (.bl _)⟩
      · rw [if_neg ok] at h; exact h.elim
    | _ => exact h.elim
variable {X : Cx} {W : WX} {k : Nat} {cls : Nat → Addr} {K : PySem.W.Frag}
theorem c_in2 {bb : Bool} (q : CurB bb X C W k cls K) : CmpI X C .In (rOr (rInD K) (rIn2 K)) opIn2 := ⟨by rw [← q.hX]; exact (or_in.or (op_din (by have := q.un; omega))).or (op_in2 q.units), by rw [← q.hK]; exact rv_in2⟩
theorem c_notin2 {bb : Bool} (q : CurB bb X C W k cls K) : CmpI X C .NotIn (rOr (rNotInD K) (rNotIn2 K)) opNotIn2 := ⟨by rw [← q.hX]; exact (or_notin.or (op_dnotin (by have := q.un; omega))).or (op_notin2 q.units), by rw [← q.hK]; exact rv_notin2⟩
end
theorem fCallK_ok {T : Type} (n m : Nat) (f : List D → Rp) (fr fk : M T (List D)) (s : S T) : mCallK n m f fr fk s = fB (fun ds => mBind fk fun es s => if ds.length = n ∧ es.length = m then cP s (f (ds ++ es)) else .stuck) (fr s) := by
  show fB _ (fr s) = _
  cases fr s with
  | exc c s => rfl
  | stuck => rfl
  | ok ds s =>
    show fB _ (fk s) = fB _ (fk s)
    cases fk s with
    | exc c s => rfl
    | stuck => rfl
    | ok es s =>
      show (if _ then _ else _) = if _ then _ else _
      split
      · unfold cP; cases f (ds ++ es) <;> rfl
      · rfl
/-- the calls with keywords, evaluated -/
def fCk2 {T : Type} (n m : Nat) (f : List D → Rp) (ds : List D) (r : Res T (List D)) : Res T D := match r with
  | .ok es s => if ds.length = n ∧ es.length = m then cP s (f (ds ++ es)) else .stuck
  | .exc c s => .exc c s
  | .stuck => .stuck
def fCk1 {T : Type} (n m : Nat) (f : List D → Rp) (fk : M T (List D)) (r : Res T (List D)) : Res T D := match r with
  | .ok ds s => fCk2 n m f ds (fk s)
  | .exc c s => .exc c s
  | .stuck => .stuck
theorem fCk2_ok {T : Type} (n m : Nat) (f : List D → Rp) (ds es : List D) (s : S T) (h : ds.length = n ∧ es.length = m) : fCk2 n m f ds (.ok es s) = cP s (f (ds ++ es)) := if_pos h
theorem fCk1_ok {T : Type} (n m : Nat) (f : List D → Rp) (fk : M T (List D)) (ds : List D) (s : S T) : fCk1 n m f fk (.ok ds s) = fCk2 n m f ds (fk s) := rfl
theorem e_callK {T : Type} (n m : Nat) (f : List D → Rp) (fr fk : M T (List D)) (s : S T) : mCallK n m f fr fk s = fCk1 n m f fk (fr s) := by
  rw [fCallK_ok]
  cases fr s with
  | exc c s => rfl
  | stuck => rfl
  | ok ds s =>
    show fB _ (fk s) = fCk2 n m f ds (fk s)
    cases fk s <;> rfl
theorem e_callD {T : Type} (f : List D → Rp) (dd : List D) (fr : M T (List D)) (s : S T) : mCallD f dd fr s = fCall (fun ds => f (ds ++ dd)) (fr s) := e_call _ fr s
end Pm

set_option Elab.async false
set_option linter.all false
set_option maxRecDepth 100000
/-! enumerate(tuple). -/
namespace Pm
open PySem L2 RZ
section
open PySem.Spec PyProof.Rows
open Sem (wp)
open AutoSeq1 (wpAny_loadPart')
theorem meets_enumerate_newT (l : Addr) (items : Array Value) (n : Nat) (dct : Option Addr) (sl : Array (Option Value)) :
    Meets (Builtin.«enumerate.__new__» ⟨[.type "enumerate", .ref l], []⟩) (fun _ R s => s.heap.get? l = some { cls := .type "tuple", dict := dct, data := .seq items n, slots := sl } ∧
      R (.ok (.ret (.ref (s.heap.push { cls := .type "tuple_iterator", data := .fields #[.ref l, .int 0 0] }).objs.size)))
        { s with heap := (s.heap.push { cls := .type "tuple_iterator", data := .fields #[.ref l, .int 0 0] }).push { cls := .type "enumerate", data := .fields #[.none, .bool false, .ref s.heap.objs.size, rawInt 0, .none, .none] } }) :=
  .of_wp fun prog w A R s h => by
    obtain ⟨hp, g, d, tk, os⟩ := s; obtain ⟨hl, h⟩ := h
    have hsub := sub_enumerate
    have hL : Heap.IsTuple (Shared.heap ⟨hp, g, d, tk, os⟩) l items := ⟨_, hl, rfl, n, rfl⟩
    wp_walk using wpAny_loadPart' hl
    refine wpAny_stack_any fun st => wpAny_pure ?_
    split
    · rename_i c _ _ _ _ _
      cases (c == Value.type "enumerate")
      · wp_walk using wpAny_loadPart' hl, wpAny_pyIter_tuple hL
        exact ⟨_, rfl, h⟩
      · wp_walk using wpAny_loadPart' hl, wpAny_pyIter_tuple hL
        exact ⟨_, rfl, h⟩
    · wp_walk using wpAny_loadPart' hl, wpAny_pyIter_tuple hL
      exact ⟨_, rfl, h⟩
theorem call_enumerate_tuple {prog : Program} {w : World} {A : Around} {E : Value → Shared → Prop} {s : Shared} {l : Addr} {items : Array Value} {Q : Value → Shared → Prop} (hL : s.heap.IsTuple l items)
    (h : ∀ h', IsEnum h' (s.heap.objs.size + 1) s.heap.objs.size 0 .none → h'.IsTupleIter s.heap.objs.size l 0 → h'.objs.size = s.heap.objs.size + 2 →
      (∀ b o, s.heap.get? b = some o → h'.get? b = some o) → Q (.ref (s.heap.objs.size + 1)) { s with heap := h' }) :
    wpAny (model prog w) A (call (.type "enumerate") [.ref l]) Q E s := by
  obtain ⟨⟨c, dct, dt, sl⟩, hl, hc, n, hd⟩ := hL
  replace hc : c = .type "tuple" := hc
  replace hd : dt = .seq items n := hd
  subst hc hd
  refine callType_new F.called_enumerate (by decide) (F.typeCall_enumerate_1 _) (F.newCall_enumerate_1 _) (fun obj => F.args_object_init_2 obj _) F.entry_enumerate_new
    (meets_enumerate_newT l items n dct sl) ⟨hl, ?_⟩
  have hz : (s.heap.push { cls := .type "tuple_iterator", data := .fields #[.ref l, .int 0 0] }).objs.size = s.heap.objs.size + 1 := Heap.size_push ..
  show _ ∧ _
  rw [hz]
  have he : IsEnum ((s.heap.push { cls := .type "tuple_iterator", data := .fields #[.ref l, .int 0 0] }).push
      { cls := .type "enumerate", data := .fields #[.none, .bool false, .ref s.heap.objs.size, rawInt 0, .none, .none] }) (s.heap.objs.size + 1) s.heap.objs.size 0 .none := by
    have := Heap.get?_push_size (s.heap.push { cls := .type "tuple_iterator", data := .fields #[.ref l, .int 0 0] })
      (o := { cls := .type "enumerate", data := .fields #[.none, .bool false, .ref s.heap.objs.size, rawInt 0, .none, .none] }) rfl
    rw [hz] at this; exact this
  refine ⟨⟨_, he, rfl⟩, h _ he ⟨_, Heap.get?_push_of_some _ (Heap.get?_push_size _ rfl), rfl, rfl⟩ (by rw [Heap.size_push, hz]) fun b o x => Heap.get?_push_of_some _ (Heap.get?_push_of_some _ x)⟩
theorem wpAny_pyNext_enum_endT {prog : Program} {w : World} {A : Around} {E : Value → Shared → Prop} {s : Shared} {e it l : Addr} {i : Nat} {items : Array Value} {old : Value} {Q : Option Value → Shared → Prop} (hh : A.handled = none)
    (he : IsEnum s.heap e it i old) (hit : s.heap.IsTupleIter it l i) (hl : s.heap.IsTuple l items) (hx : items[i]? = none)
    (hQ : ∀ h', Heap.ExtBut it s.heap h' → Q none { s with heap := h' }) : wpAny (model prog w) A (pyNext (.ref e)) Q E s := by
  have hT : s.TypeIs (.ref e) "enumerate" := ⟨_, he, rfl⟩
  unfold pyNext
  refine wpAny_bind (wpAny_attempt (wpAny_callSpecial?_slot (name := Str.ofString "__next__") hT F.slot_enumerate_next
    (wpAny_call_entry F.slot_enumerate_next hT F.entry_enumerate_next ?_ (F.args_enumerate_next_1 _))))
  show wpAny _ _ (field (.ref e) 2 >>= _) _ _ _
  refine wpAny_bind (wpAny_field he rfl (x := .ref it) rfl ?_)
  refine wpAny_bind (wpAny_nextOf_tuple_end hh hit hl hx fun h' x he' hx' => ?_)
  obtain ⟨o, ho, hc⟩ := hx'
  refine wpAny_bind (wpAny_isInstance (T := "StopIteration") (b := true) ⟨o, ho, hc⟩ isSubtype_stop ?_)
  exact wpAny_pure (hQ _ he')
/-- the tuple at a, each item in a new pair -/
def IteT (K : PySem.W.Frag) (a : Addr) : It :=
  ⟨fun i H => ∃ (xs : List V) (x : V), SqT K H a xs ∧ xs[i]? = some x, fun i H v H' => ∃ T x, v = .ref T ∧ H T = none ∧ H' = upd H T (.tup [.int (i : Nat), x]) ∧ ∀ xs, SqT K H a xs → xs[i]? = some x, fun i H => ∃ xs : List V, SqT K H a xs ∧ xs.length ≤ i⟩
theorem turn_enumT {P : Program} {w : World} {K : PySem.W.Frag} {elts : List Expr} {kk : Nat} {tpos : Pos} (a e it : Addr) (hai : a ≠ it) (hae : a ≠ e) :
    Turn P w K (.Tuple elts kk tpos) (IteT K a) [e, it] e (fun i h => (∃ old, IsEnum h e it ((i : Nat) : Int) old) ∧ h.IsTupleIter it a i ∧ e ≠ it) where
  mem := by simp
  obj := fun i h st b hb => by
    obtain ⟨⟨old, he⟩, ⟨o, ho, hc, hd⟩, _⟩ := st
    have e' : b = e ∨ b = it := by simpa using hb
    rcases e' with z | z
    · rw [z]; exact ⟨_, he, fun v q => nomatch q⟩
    · rw [z]; exact ⟨o, ho, fun v q => by rw [hd] at q; cases q⟩
  keep := fun i h h' st k => let ⟨⟨old, he⟩, hi, hne⟩ := st; ⟨⟨old, k e (by simp) _ he⟩, hi.at fun o q => k it (by simp) o q, hne⟩
  item := by
    intro X hP hw hK hc i pins s σ H E I hf st hg
    subst hP hw hK
    obtain ⟨⟨old, he⟩, hit, hne⟩ := st
    obtain ⟨xs, x, hq, hx⟩ := hg
    obtain ⟨its, rv, p, hz⟩ := I.tuple hq
    obtain ⟨u, hu, ru⟩ := rv.get hx
    have hel : e < s.heap.objs.size := Heap.lt_size he
    have hlt : i < its.toArray.size := by
      have := (List.getElem?_eq_some_iff.mp hu).1
      simpa using this
    refine wpAny_pyNext_enum_itemD (Draws.tuple (A := X.A.in1) (I.ok.hd hc) it a hai its.toArray) he ⟨hit, p⟩ hlt hne (by simp; exact ⟨hne, hae.symm⟩) fun x' h' tk hx' ho st' hT hsz hk => ?_
    have ex : x' = u := by
      have h1 : its.toArray[i]? = some u := by simpa using hu
      rw [h1] at hx'
      exact (Option.some.inj hx').symm
    subst ex
    refine ⟨_, rfl, wpAny_letOwnedTupleGo_enum (s := { s with heap := h', toks := tk + 1 }) ho fun h'' he' sb => ?_⟩
    have hT2 : h''.get? s.heap.objs.size = some { cls := .type "tuple", data := .seq #[.int i tk, x'] } := (sb.2 _ (Nat.ne_of_gt hel)).trans hT
    have new : ObjOk X.prog X.w (upd H s.heap.objs.size (.tup [.int (i : Nat), x])) h'' s.heap.objs.size (.tup [.int (i : Nat), x]) :=
      ⟨by show 2 ≤ sizeLine; decide, [.int i tk, x'], .cons ⟨_, rfl⟩ (.cons ru .nil), ⟨_, hT2, rfl, _, rfl⟩⟩
    have I1 : Inv X pins σ (upd H s.heap.objs.size (.tup [.int (i : Nat), x])) { s with heap := h'', toks := tk + 1 } :=
      I.turnedNew (ch := [e, it]) (fun b ob hb q => (sb.2 b (fun z => hb (by simp [z]))).trans (hk b ob (fun z => hb (by simp [z])) (fun z => hb (by simp [z])) q)) hf (Nat.le_refl _) new
    refine ⟨.ref s.heap.objs.size, _, I1, rfl, ⟨_, x, rfl, I.hok.fresh (Nat.le_refl _), rfl, fun ys hy => by rw [I.tuple_inj hy hq]; exact hx⟩, ⟨⟨x', ?_⟩, st'.1.at fun o q => (sb.2 it (Ne.symm hne)).trans q, hne⟩, fun b hb => ?_⟩
    · have e1 : ((i + 1 : Nat) : Int) = (i : Int) + 1 := by omega
      rw [e1]; exact he'
    · have hb' : b < s.heap.objs.size := by
        have e' : b = e ∨ b = it := by simpa using hb
        rcases e' with z | z
        · rw [z]; exact hel
        · rw [z]; obtain ⟨_, q, _⟩ := hit; exact Heap.lt_size q
      rw [upd_ne (Nat.ne_of_lt hb')]
      exact (hf b hb).1
  done := by
    intro X hP hw hK hc i pins s σ H E I hf st hg
    subst hP hw hK
    obtain ⟨⟨old, he⟩, hit, hne⟩ := st
    obtain ⟨xs, hq, hx⟩ := hg
    obtain ⟨its, rv, p, hz⟩ := I.tuple hq
    obtain ⟨f0, f1, f2, f3, f4, f5⟩ := hf it (by simp)
    have hl := rv.length
    have hx0 : its.toArray[i]? = none := by simp; omega
    refine wpAny_pyNext_enum_endT (I.ok.hd hc) he hit p hx0 fun h' eb => ⟨rfl, I.turned (t' := s.toks) (fun b o hb q => eb b o hb q) f0 f1 f3 f4 f5⟩
  self := fun A i s Q E st h => let ⟨⟨_, he⟩, _⟩ := st; wpAny_pyIter_enum he h
def iEnumA (K : PySem.W.Frag) (ta : TA) : TI := fun σ H R => ta σ H fun vs H1 => ∃ a xs, vs = [.ref a] ∧ ((SqL K H1 a xs ∧ R (Ite K a) H1) ∨ (SqT K H1 a xs ∧ R (IteT K a) H1))
theorem pi_enumA {X : Cx} {e : Expr} {ta : TA} {p pos tpos : Pos} {elts : List Expr} {kk : Nat} (hg : Gl X "enumerate") (hm : X.mg "enumerate" = none) (ha : PA X [e] ta) (hs : starEach [e] X.env = [(false, eval e X.env)] := by rfl) :
    PI X (.Tuple elts kk tpos) (.Call (.Name "enumerate" p) [e] [] pos) (iEnumA X.K ta) := by
  refine ⟨fun pins s σ H R I h => ?_⟩
  refine Call_ (ld_blt I hg hm boot_enumerate (PyProof.Rows.callWith_type1 (thn (ha.run pos pins s σ H _ I h) fun us s1 ⟨vs, H1, I1, r1, q1⟩ => ?_) hs rfl))
  obtain ⟨a, xs, ex, hq⟩ := q1
  subst ex
  cases r1 with
  | cons r rr =>
    cases rr
    cases r
    have hle : ∀ b, b = s1.heap.objs.size + 1 ∨ b = s1.heap.objs.size → s1.heap.objs.size ≤ b := fun b e' => by
      rcases e' with z | z
      · rw [z]; exact Nat.le_add_right _ _
      · rw [z]; exact Nat.le_refl _
    rcases hq with ⟨hq, q⟩ | ⟨hq, q⟩
    · obtain ⟨its, rv, p', hz⟩ := I1.list hq
      refine call_enumerate_list p'.isList fun h' he hit hsz hk => wpAny_pyIter_enum he ?_
      have I2 : Inv X pins σ H1 { s1 with heap := h' } := I1.kept (t' := s1.toks) hk
      exact ⟨s1.heap.objs.size + 1, [s1.heap.objs.size + 1, s1.heap.objs.size], _, _, H1, rfl, I2, turn_enum a (s1.heap.objs.size + 1) s1.heap.objs.size, ⟨⟨.none, he⟩, hit, Nat.succ_ne_self _⟩, fun b hb => I1.fpOk (hle b (by simpa using hb)) (I1.hok.fresh (hle b (by simpa using hb))), q⟩
    · obtain ⟨its, rv, p', hz⟩ := I1.tuple hq
      obtain ⟨o, ho, _⟩ := id p'
      have hal : a < s1.heap.objs.size := Heap.lt_size ho
      refine call_enumerate_tuple p' fun h' he hit hsz hk => wpAny_pyIter_enum he ?_
      have I2 : Inv X pins σ H1 { s1 with heap := h' } := I1.kept (t' := s1.toks) hk
      exact ⟨s1.heap.objs.size + 1, [s1.heap.objs.size + 1, s1.heap.objs.size], _, _, H1, rfl, I2, turn_enumT a (s1.heap.objs.size + 1) s1.heap.objs.size (Nat.ne_of_lt hal) (Nat.ne_of_lt (Nat.lt_succ_of_lt hal)), ⟨⟨.none, he⟩, hit, Nat.succ_ne_self _⟩, fun b hb => I1.fpOk (hle b (by simpa using hb)) (I1.hok.fresh (hle b (by simpa using hb))), q⟩
end
theorem walk_enumT {K : PySem.W.Frag} {a : Addr} {xs : List V} : Walk (IteT K a) xs.length (fun H => SqT K H a xs) (YPair (fun i => some (.int (i : Nat))) (fun i => xs[i]?)) := by
  refine ⟨fun i _ hi q => ⟨xs, xs[i], q, by simp [hi]⟩, fun _ q => ⟨xs, q, Nat.le_refl _⟩, fun i H v H' _ q y => ?_⟩
  obtain ⟨T, x, h1, h2, h3, h4⟩ := y
  exact ⟨T, .int (i : Nat), x, h1, h2, h3, rfl, h4 xs q⟩
def mEnumA {T : Type} (f : M T D) : M T (List D) := mBind f fun d => mLift (match d with
  | .list ds => some (enumD 0 ds)
  | .tuple ds => some (enumD 0 ds)
  | _ => none)
section
variable {T : Type} {C : Ct T} {W : WX} {X : Cx} {k : Nat} {cls : Nat → Addr} {K : PySem.W.Frag} {a : Expr} {p pos : Pos} {ta : TE} {fa : M T D}
theorem si_enumA (ha : Sv C W ta fa) : Si C W (iEnumA C.K (tCons ta tNil)) (mEnumA fa) := by
  intro F0 H0 L s σ F H R g h
  refine ha _ _ _ _ _ _ _ _ g (po_imp (po_bind h) fun d s1 F1 H1 g1 e1 h1 v rv => ?_)
  obtain ⟨items, q, h2⟩ := po_lift h1
  have h3 := po_ret h2 g1
  have fin : ∀ {xs : List V} {ds : List D}, RepL C.K F1 xs ds → ∀ (i : Nat) (x : V) (F' H' H3 : Hp) (d : D), Same F1 F' → Sub F' H' → (enumD 0 ds)[i]? = some d → YPair (fun i => some (.int (i : Nat))) (fun i => xs[i]?) i H' x H3 → YOk C.K F' H' x H3 d := fun {xs ds} r i x F' H' H3 d e u hd y => by
    obtain ⟨tp, b, c, h1, h2, h3, h4, h5⟩ := y
    obtain ⟨z, hz, rfl⟩ := enumD_get hd
    obtain ⟨w, k1, k2⟩ := r.get hz
    dsimp only at h4 h5
    rw [h5] at k1; cases k1
    cases h4
    refine .inr ⟨tp, _, _, _, _, h1, h2, h3, ?_, k2.mono e, rfl⟩
    rw [Int.zero_add]
    exact .int _
  cases rv with
  | lst hx r =>
    rename_i ad xs ds
    cases q
    have hw : Walk (Ite C.K ad) (enumD 0 ds).length (fun H => SqL C.K H ad xs) (YPair (fun i => some (.int (i : Nat))) (fun i => xs[i]?)) := by
      rw [enumD_length, ← r.length]; exact walk_enum
    exact ⟨ad, xs, rfl, .inl ⟨SqL.of (g1.sub.lst hx), h3 _ ⟨_, _, hw, fun F' H' e u _ => SqL.of (u.lst (e _ _ hx)), fun i x F' H' H3 d e u hd y => fin r i x F' H' H3 d e u hd y⟩⟩⟩
  | tup hx r =>
    rename_i ad xs ds
    cases q
    have hw : Walk (IteT C.K ad) (enumD 0 ds).length (fun H => SqT C.K H ad xs) (YPair (fun i => some (.int (i : Nat))) (fun i => xs[i]?)) := by
      rw [enumD_length, ← r.length]; exact walk_enumT
    exact ⟨ad, xs, rfl, .inr ⟨g1.sub.tup hx, h3 _ ⟨_, _, hw, fun F' H' e u _ => u.tup (sqT_mono e hx), fun i x F' H' H3 d e u hd y => fin r i x F' H' H3 d e u hd y⟩⟩⟩
  | _ => cases q
theorem di_enumA {elts : List Expr} {kk : Nat} {tpos : Pos} {bb : Bool} (q : CurB bb X C W k cls K) (hm : X.mg "enumerate" = none) (ha : DV X C W a ta fa) (hg : Gl X "enumerate" := by rfl) (hs : starEach [a] X.env = [(false, eval a X.env)] := by rfl) :
    DI X C W (.Tuple elts kk tpos) (.Call (.Name "enumerate" p) [a] [] pos) (iEnumA K (tCons ta tNil)) (mEnumA fa) := ⟨by rw [← q.hX]; exact pi_enumA hg hm (pa_cons ha.pe pa_nil (by rw [hs]; rfl)) hs, by rw [← q.hK]; exact si_enumA ha.sv⟩
end
def fEnumA {T : Type} (r : Res T D) : Res T (List D) := match r with
  | .ok (.list xs) s => .ok (enumD 0 xs) s
  | .ok (.tuple xs) s => .ok (enumD 0 xs) s
  | .ok _ s => .stuck
  | .exc c s => .exc c s
  | .stuck => .stuck
theorem fEnumA_l {T : Type} (xs : List D) (s : S T) : fEnumA (.ok (.list xs) s) = .ok (enumD 0 xs) s := rfl
theorem fEnumA_t {T : Type} (xs : List D) (s : S T) : fEnumA (.ok (.tuple xs) s) = .ok (enumD 0 xs) s := rfl
theorem e_enumA {T : Type} (f : M T D) (s : S T) : mEnumA f s = fEnumA (f s) := by
  show fB _ (f s) = _
  cases f s with
  | exc c s => rfl
  | stuck => rfl
  | ok d s => cases d <;> rfl
end Pm

set_option Elab.async false
set_option linter.all false
set_option maxRecDepth 100000
/-! Stores into an own list; pop, insert, remove; max, min of a list. -/
namespace Pm
open PySem L2 RZ
/-- a, xs[k] = e1, e2: a in slot i, xs the own list in slot j -/
def mSetNX {T : Type} (i j : Nat) (k : Int) (f : M T (List D)) : M T Out := mBind f fun ds s => match ds with
  | [a, b] => (match (s.env.set i (.fz a))[j]? with
    | some (.ol xs) => (match ixN xs.length k with
      | some m => if i ≠ j then .ok .nx ⟨(s.env.set i (.fz a)).set j (.ol (xs.set m b)), s.t⟩ else .stuck
      | none => .stuck)
    | _ => .stuck)
  | _ => .stuck
/-- xs[k] = e, xs an own list -/
def mLPut {T : Type} (i : Nat) (fk fv : M T D) : M T Out := mBind fv fun v s => match s.env[i]? with
  | some (.ol _) => mBind fk (fun k s1 => match s1.env[i]?, k with
    | some (.ol xs), .int k => (match ixN xs.length k with
      | some m => .ok .nx ⟨s1.env.set i (.ol (xs.set m v)), s1.t⟩
      | none => .stuck)
    | _, _ => .stuck) s
  | _ => .stuck
section
variable {T : Type} {C : Ct T} {W : WX}
theorem RepL.set' {K : PySem.W.Frag} {F : Hp} {x : V} {d : D} (h : Rep K F x d) : ∀ {vs : List V} {ds : List D} (m : Nat), RepL K F vs ds → RepL K F (vs.set m x) (ds.set m d)
  | _, _, _, .nil => .nil
  | _, _, 0, .cons _ r => .cons h r
  | _, _, m + 1, .cons k r => .cons k (RepL.set' h m r)
theorem sb_setNX {i j : Nat} {k : Int} {ta : TA} {f : M T (List D)} (h : Sa C W ta f) : Sb C W (tAsg (tTup ta) (gTup C.K 2 (gCons (gName i) (gCons (gSub (tVar j) (tC (.int k)) rSetL) gNil)))) (mSetNX i j k f) := by
  intro F0 H0 L s σ F H E g q
  refine h _ _ _ _ _ _ _ _ g (po_imp (pos_bind q) fun ds s1 F1 H1 g1 e1 k1 vs rv => ?_)
  match ds, rv, k1 with
  | [], _, k1 => exact k1.elim
  | [_], _, k1 => exact k1.elim
  | _ :: _ :: _ :: _, _, k1 => exact k1.elim
  | [a, b], .cons ra (.cons rb .nil), k1 =>
    rename_i va vb
    dsimp only at k1
    refine ⟨sz_ok (n := 2) (by decide), fun p hp => ⟨p, [va, vb], rfl, .inl (.inl upd_same), rfl, va, [vb], rfl, ?_⟩⟩
    have g2 : Good C F0 H0 L ⟨s1.env.set i (.fz a), s1.t⟩ (σ.set i (some va)) F1 (upd H1 p (.tup [va, vb])) := (g1.alloc hp).setFz i ra
    cases q0 : (s1.env.set i (.fz a))[j]? with
    | none => rw [q0] at k1; exact k1.elim
    | some x =>
      rw [q0] at k1
      cases x with
      | ol xs =>
        dsimp only at k1
        cases q1 : ixN xs.length k with
        | none => rw [q1] at k1; exact k1.elim
        | some m =>
          rw [q1] at k1
          dsimp only at k1
          by_cases hij : i ≠ j
          · rw [if_pos hij] at k1
            obtain ⟨p', ws, z1, z2, z3, z4, z5⟩ := g2.slots j _ q0
            refine ⟨vb, [], rfl, .ref p', z1, p', ws, k, m, rfl, rfl, z4, by rw [z5.length]; exact q1, rfl, ?_⟩
            exact k1 _ _ _ (g2.mutate (o := HO.lst (ws.set m vb)) q0 rfl z1 (y := .ol (xs.set m b)) ⟨p', _, rfl, z2, z3, upd_same, z5.set' rb m⟩ z2 z3 ⟨_, z4⟩) (Same.refl _)
          · rw [if_neg hij] at k1; exact k1.elim
      | _ => exact k1.elim
end
section
variable {T : Type} {X : Cx} {C : Ct T} {W : WX} {k : Nat} {cls : Nat → Addr} {K : PySem.W.Frag} {es : List Expr} {pos : Pos} {ta : TA} {fa : M T (List D)}
theorem ds_setNX {x : Str} {o : Expr} {px sp cp pt pt2 : Pos} {kc k1 k2 : Nat} {z : Int} (i j : Nat) (q : Cur X C W k cls K) (ho : PE X o (tVar j)) (ha : DA X C W es ta fa)
    (hi : X.N[i]? = some x := by rfl) (hx : Loc X.env.scope x := by first | exact Or.inl rfl | exact Or.inr rfl) (hf : X.fn x = true ∨ X.env.scope.names.lookup x = some .local := by first | exact .inl rfl | exact .inr rfl)
    (hc1 : (assignEach (.Name x px :: [.Subscript o (.Constant (.int z) kc cp) sp]) X.env).map (·.2) = assign (.Name x px) X.env :: (assignEach [.Subscript o (.Constant (.int z) kc cp) sp] X.env).map (·.2) := by rfl)
    (hc2 : (assignEach (.Subscript o (.Constant (.int z) kc cp) sp :: []) X.env).map (·.2) = assign (.Subscript o (.Constant (.int z) kc cp) sp) X.env :: (assignEach [] X.env).map (·.2) := by rfl)
    (hl : (assignEach [.Name x px, .Subscript o (.Constant (.int z) kc cp) sp] X.env).length = 2 := by rfl) (hst : (assignEach [.Name x px, .Subscript o (.Constant (.int z) kc cp) sp] X.env).findIdx? (·.1) = none := by rfl)
    (hs : swapsWithSole [.Tuple [.Name x px, .Subscript o (.Constant (.int z) kc cp) sp] k1 pt] (.Tuple es k2 pt2) pos.line X.env = pure false := by rfl) (hw : swappedStores [.Tuple [.Name x px, .Subscript o (.Constant (.int z) kc cp) sp] k1 pt] (.Tuple es k2 pt2) X.env = pure none := by rfl)
    (h1 : (assignEach [.Tuple [.Name x px, .Subscript o (.Constant (.int z) kc cp) sp] k1 pt] X.env).map (·.2) = [assign (.Tuple [.Name x px, .Subscript o (.Constant (.int z) kc cp) sp] k1 pt) X.env] := by rfl)
    (hsub : ∀ v, assign (.Subscript o (.Constant (.int z) kc cp) sp) X.env v = (do
      let ov ← holding [v] (eval o X.env)
      let iv ← holding [v, ov] (eval (.Constant (.int z) kc cp) X.env)
      standAt sp
      holding [v, ov, iv] (setItem ov iv v)
      release [v, ov, iv] []) := by intro _; rfl) :
    DS X C W (.Assign [.Tuple [.Name x px, .Subscript o (.Constant (.int z) kc cp) sp] k1 pt] (.Tuple es k2 pt2) pos) (tAsg (tTup ta) (gTup K 2 (gCons (gName i) (gCons (gSub (tVar j) (tC (.int z)) rSetL) gNil)))) (mSetNX i j z fa) :=
  ⟨by rw [← q.hX]; exact ps_asg (pe_tup ha.pe) (pg_tup q.calm (pgs_cons (pg_name q.nd hi hx hf) (pgs_cons (pg_sub ho pe_int set_list hsub) pgs_nil hc2) hc1) hl hst) hs hw h1, by rw [← q.hK]; exact sb_setNX ha.sv⟩
end
/-! evaluation -/
def fNX (i j : Nat) (k : Int) {T : Type} (r : Res T (List D)) : Res T Out := match r with
  | .ok [a, b] s => (match (s.env.set i (.fz a))[j]? with
    | some (.ol xs) => (match ixN xs.length k with
      | some m => if i ≠ j then .ok .nx ⟨(s.env.set i (.fz a)).set j (.ol (xs.set m b)), s.t⟩ else .stuck
      | none => .stuck)
    | _ => .stuck)
  | .ok _ s => .stuck
  | .exc c s => .exc c s
  | .stuck => .stuck
theorem e_setNX {T : Type} (i j : Nat) (k : Int) (f : M T (List D)) (s : S T) : mSetNX i j k f s = fNX i j k (f s) := by
  show fB _ (f s) = _
  cases f s with
  | exc c s => rfl
  | stuck => rfl
  | ok ds s =>
    match ds with
    | [] => rfl
    | [_] => rfl
    | [_, _] => rfl
    | _ :: _ :: _ :: _ => rfl
theorem fNX_ok {T : Type} {i j : Nat} {k : Int} {a b : D} {e : List Slot} {t : T} {xs : List D} {m : Nat} (h : (e.set i (.fz a))[j]? = some (.ol xs)) (hm : ixN xs.length k = some m) (hij : i ≠ j) : fNX i j k (.ok [a, b] ⟨e, t⟩) = .ok .nx ⟨(e.set i (.fz a)).set j (.ol (xs.set m b)), t⟩ := by
  show (match (e.set i (.fz a))[j]? with | some (.ol xs) => _ | _ => _) = _
  rw [h]
  dsimp only
  rw [hm]
  dsimp only
  rw [if_pos hij]
end Pm

set_option Elab.async false
set_option linter.all false
set_option maxRecDepth 100000
/-! A comprehension over a dict in a slot: the dict is locked meanwhile. -/
namespace Pm
open PySem L2 RZ
section
variable {T : Type} {C : Ct T} {W : WX} {F0 H0 F F' H H' : Hp} {L : Nat → Option Addr} {s s' : S T} {σ σ' : L2.St}
theorem Good.relock (g : Good C F0 H0 L s σ F H) {a : Addr} {ks : List (Key × V)} {od : Obj} (ha : F a = some (.dK ks)) (hb : H a = some (.dK ks) ∨ ∃ ob, H a = some (.frz ob (.dK ks))) : Good C F (upd H0 a (.frz od (.dK ks))) L s σ F (upd H a (.frz od (.dK ks))) := by
  have hfp : a ∉ C.fp := fun z => by rw [g.fpF a z] at ha; cases ha
  refine { g with sub := ?_, ext0 := Same.refl F, base := ?_, newF := fun b o h => .inl h, fp0 := ?_, fpH := ?_, lH := ?_, slots := ?_, j := ?_ }
  · intro b o h
    by_cases e : b = a
    · subst e
      rw [ha] at h; cases h
      exact .inr ⟨⟨_, rfl⟩, od, upd_same⟩
    · rw [upd_ne e]
      exact g.sub b o h
  · intro b o h z
    by_cases e : b = a
    · subst e
      rw [upd_same] at h ⊢
      exact h
    · rw [upd_ne e] at h ⊢
      exact g.base b o h z
  · intro b z
    rw [upd_ne (fun e : b = a => hfp (by rw [← e]; exact z))]
    exact g.fp0 b z
  · intro b z
    rw [upd_ne (fun e : b = a => hfp (by rw [← e]; exact z))]
    exact g.fpH b z
  · intro i q h
    by_cases e : q = a
    · subst e
      rw [upd_same]
      exact fun z => by cases z
    · rw [upd_ne e]
      exact g.lH i q h
  · intro i x hx
    have k := g.slots i x hx
    have nF : ∀ p, F p = none → p ≠ a := fun p h e => by rw [e, ha] at h; cases h
    cases x with
    | un => trivial
    | fz d => exact k
    | pt n => exact k
    | ol xs =>
      obtain ⟨p, vs, h1, h2, h3, h4, h5⟩ := k
      exact ⟨p, vs, h1, h2, by rw [upd_ne (nF p h2)]; exact h3, by rw [upd_ne (nF p h2)]; exact h4, h5⟩
    | od xs =>
      obtain ⟨p, vs, h1, h2, h3, h4, h5⟩ := k
      exact ⟨p, vs, h1, h2, by rw [upd_ne (nF p h2)]; exact h3, by rw [upd_ne (nF p h2)]; exact h4, h5⟩
    | bw xs =>
      obtain ⟨q, vs, h1, h2, h3, h4, h5⟩ := k
      have e : q ≠ a := fun e => by
        subst e
        have z := g.base q _ h4 h3
        rcases hb with y | ⟨ob, y⟩ <;> rw [y] at z <;> cases z
      exact ⟨q, vs, h1, h2, h3, by rw [upd_ne e]; exact h4, h5⟩
  · exact C.stab s.t F H F _ g.j (Same.refl F) fun b z => upd_ne fun e => hfp (e ▸ z)
theorem Good.unlock (g : Good C F0 H0 L s σ F H) {a : Addr} {ks : List (Key × V)} {od : Obj} {x : HO} (ha : F a = some (.dK ks)) (hx : H a = some x) (hb : x = .dK ks ∨ ∃ ob, x = .frz ob (.dK ks)) (g' : Good C F (upd H0 a (.frz od (.dK ks))) L s' σ' F' H') : Good C F0 H0 L s' σ' F' (upd H' a x) := by
  have hfp : a ∉ C.fp := fun z => by rw [g.fpF a z] at ha; cases ha
  have ha' : F' a = some (.dK ks) := g'.ext0 a _ ha
  have hH' : H' a = some (.frz od (.dK ks)) := g'.base a _ upd_same hfp
  have n0 : ∀ p, upd H0 a (.frz od (.dK ks)) p = none → p ≠ a ∧ H0 p = none := fun p h => by
    by_cases e : p = a
    · subst e; rw [upd_same] at h; cases h
    · rw [upd_ne e] at h; exact ⟨e, h⟩
  refine { g' with sub := ?_, ext0 := g.ext0.trans g'.ext0, base := ?_, newF := ?_, fp0 := g.fp0, fpH := ?_, lH := g.lH, slots := ?_, j := ?_ }
  · intro b o h
    by_cases e : b = a
    · subst e
      rw [ha'] at h; cases h
      rw [upd_same]
      rcases hb with y | ⟨ob, y⟩
      · exact .inl (by rw [y])
      · exact .inr ⟨⟨_, rfl⟩, ob, by rw [y]⟩
    · rw [upd_ne e]
      exact g'.sub b o h
  · intro b o h z
    by_cases e : b = a
    · subst e
      rw [upd_same]
      rw [g.base b o h z] at hx
      cases hx; rfl
    · rw [upd_ne e]
      exact g'.base b o (by rw [upd_ne e]; exact h) z
  · intro b o h
    rcases g'.newF b o h with y | y | y
    · exact g.newF b o y
    · exact .inr (.inl (n0 b y).2)
    · exact .inr (.inr y)
  · intro b z
    rw [upd_ne (fun e : b = a => hfp (by rw [← e]; exact z))]
    exact g'.fpH b z
  · intro i y hy
    have k := g'.slots i y hy
    cases y with
    | un => trivial
    | fz d => exact k
    | pt n => exact k
    | ol xs =>
      obtain ⟨p, vs, h1, h2, h3, h4, h5⟩ := k
      exact ⟨p, vs, h1, h2, (n0 p h3).2, by rw [upd_ne (n0 p h3).1]; exact h4, h5⟩
    | od xs =>
      obtain ⟨p, vs, h1, h2, h3, h4, h5⟩ := k
      exact ⟨p, vs, h1, h2, (n0 p h3).2, by rw [upd_ne (n0 p h3).1]; exact h4, h5⟩
    | bw xs =>
      obtain ⟨q, vs, h1, h2, h3, h4, h5⟩ := k
      have e : q ≠ a := fun e => by subst e; rw [upd_same] at h4; cases h4
      exact ⟨q, vs, h1, h2, h3, by rw [upd_ne e] at h4; exact h4, h5⟩
  · exact C.stab s'.t F' H' F' _ g'.j (Same.refl F') fun b z => upd_ne fun e => hfp (e ▸ z)
theorem Tmp.unlock {a p : Addr} {u : HO} (t : Tmp C (upd H0 a u) s σ F H p) (H1 : Hp) : p ≠ a ∧ Tmp C H0 s σ F H1 p := by
  have h := t.h0
  by_cases e : p = a
  · subst e; rw [upd_same] at h; cases h
  · rw [upd_ne e] at h
    exact ⟨e, t.f, h, t.no⟩
theorem slotV_unlock {a : Addr} {u x : HO} {v : V} : ∀ {y : Slot}, SlotV C (upd H0 a u) s σ F H v y → SlotV C H0 s σ F (upd H a x) v y
  | .un, _ => trivial
  | .fz _, h => h
  | .pt _, h => h
  | .bw _, h => h
  | .ol xs, ⟨p, vs, h1, h2, h3, h4⟩ => ⟨p, vs, h1, (h2.unlock _).2, by rw [upd_ne (h2.unlock H).1]; exact h3, h4⟩
  | .od xs, ⟨p, vs, h1, h2, h3, h4⟩ => ⟨p, vs, h1, (h2.unlock _).2, by rw [upd_ne (h2.unlock H).1]; exact h3, h4⟩
end
def mKeys {T : Type} (i : Nat) : M T (List D) := fun s => match s.env[i]? with
  | some (.fz (.dict kvs)) => .ok (kvs.map (·.1)) s
  | _ => .stuck
theorem repKV_keys {K : PySem.W.Frag} {F : Hp} : ∀ {ks : List (Key × V)} {ds : List (D × D)}, RepKV K F ks ds → ks.length = ds.length ∧ ∀ i : Nat, ∀ d, (ds.map (·.1))[i]? = some d → ∃ k v, ks[i]? = some (k, v) ∧ d = kD k
  | _, _, .nil => ⟨rfl, fun i d h => by simp at h⟩
  | _, _, .cons (k := k) (v := v) r t => by
    obtain ⟨h1, h2⟩ := repKV_keys t
    refine ⟨by rw [List.length_cons, List.length_cons, h1], fun i d h => ?_⟩
    cases i with
    | zero => cases h; exact ⟨k, v, rfl, rfl⟩
    | succ i => exact h2 i d h
theorem rep_key {K : PySem.W.Frag} {F : Hp} (k : Key) : Rep K F (kV k) (kD k) := by
  cases k with
  | inl i => exact .int i
  | inr x => exact .str x
abbrev tLk (t : TE) : TE := fun σ H Q => tLockE t σ H Q ∨ t σ H Q
theorem pe_lk {X : Cx} {e : Expr} {t : TE} (h : PE X e t) : PE X e (tLk t) := ⟨fun pins s σ H Q I q => q.elim ((pe_lock h).run pins s σ H Q I) (h.run pins s σ H Q I)⟩
section
variable {T : Type} {C : Ct T} {W : WX}
theorem se_lcD {i : Nat} {tg : TG} {is : List Nat} {p : D → M T Unit} {tt : TT} {ft : M T Bool} {te : TE} {fe : M T D} {vs : List Nat} (hg : Sg C tg is p) (his : ∀ i ∈ is, i ∈ vs) (ht : Stt C W0 tt ft) (he : Sv C W0 te fe) :
    Se C W (tLk (tLc (iKeys (tVar i)) tg tt te vs)) (mLc vs (mKeys i) p ft fe) := by
  intro F0 H0 L s σ F H Q g k
  obtain ⟨ds, hs, hk⟩ : ∃ ds, s.env[i]? = some (.fz (.dict ds)) ∧ mKeys i s = .ok (ds.map (·.1)) s := by
    unfold mLc mBind at k
    cases h : mKeys i s with
    | ok a s' =>
      unfold mKeys at h
      split at h
      · rename_i kvs he
        cases h
        exact ⟨kvs, he, rfl⟩
      · cases h
    | exc c s' => unfold mKeys at h; split at h <;> cases h
    | stuck => rw [h] at k; exact k.elim
  obtain ⟨x, hx, rx⟩ := g.slots i _ hs
  cases rx with
  | dic ha rk =>
    rename_i a ks
    have nexc : ∀ c s', mLc vs (mKeys i) p ft fe s ≠ .exc c s' := fun c s' h => by
      unfold mLc mBind at h
      rw [hk] at h
      dsimp only at h
      split at h
      · split at h <;> cases h
      · cases h
    have hfp : a ∉ C.fp := fun z => by rw [g.fpF a z] at ha; cases ha
    have main : ∀ (od : Obj) (x : HO) (Qi : VK), H a = some x → (x = .dK ks ∨ ∃ ob, x = .frz ob (.dK ks)) → (∀ v H', H' a = some (.frz od (.dK ks)) → Q v (upd H' a x) → Qi v H') → tLc (iKeys (tVar i)) tg tt te vs σ (upd H a (.frz od (.dK ks))) Qi := fun od x Qi hH hb hQ => by
      have g1 := g.relock (od := od) ha (by rcases hb with y | ⟨ob, y⟩ <;> subst y <;> first | exact .inl hH | exact .inr ⟨ob, hH⟩)
      refine se_lc_at (C := C) (W := W) (F0 := F) (H0 := upd H0 a (.frz od (.dK ks))) (L := L) (s := s) (F := F) (fi := mKeys i) (fun R h => ?_) hg his ht he ?_
      · rw [hk] at h
        refine ⟨.ref a, hx, a, od, rfl, .inl ⟨ks, upd_same, h F _ g1 (Same.refl F) _ ⟨_, _, (show (ds.map fun z : D × D => z.1).length = ks.length by rw [List.length_map, (repKV_keys rk).1]) ▸ walk_keys (d := a) (o := od) (kvs := ks), fun F' H' e u b => b a _ upd_same hfp, fun j y F' H' H3 d e u hd hy => ?_⟩⟩⟩
        obtain ⟨h1, k1, v1, h2, h3⟩ := hy
        obtain ⟨k2, v2, h4, h5⟩ := (repKV_keys rk).2 j d hd
        rw [h2] at h4; cases h4
        rw [h3, h5]
        exact .inl ⟨h1, rep_key k1⟩
      · cases hr : mLc vs (mKeys i) p ft fe s with
        | stuck => rw [hr] at k; exact k.elim
        | exc c s' => exact (nexc c s' hr).elim
        | ok r s' =>
          rw [hr] at k
          intro F' H' g' e v sv
          exact hQ v H' (g'.base a _ upd_same hfp) (k F' _ (g.unlock ha hH hb g') e v (slotV_unlock sv))
    rcases g.sub.dic ha with hH | ⟨ob, hH⟩
    · exact .inl ⟨a, .dK ks, hH, trivial, fun od => main od _ _ hH (.inl rfl) fun v H' h q => ⟨h, q⟩⟩
    · refine .inr ?_
      have e : ∀ H' : Hp, H' a = some (.frz ob (.dK ks)) → upd H' a (.frz ob (.dK ks)) = H' := fun H' h => by
        funext b
        by_cases z : b = a
        · subst z; rw [upd_same, h]
        · rw [upd_ne z]
      have m := main ob _ Q hH (.inr ⟨ob, rfl⟩) fun v H' h q => by rw [e H' h] at q; exact q
      rw [e H hH] at m
      exact m
end
section
variable {T : Type} {X : Cx} {C : Ct T} {W : WX} {k : Nat} {cls : Nat → Addr} {K : PySem.W.Frag} {pos : Pos} {tt : TT} {ft : M T Bool} {te : TE} {fe : M T D}
theorem de_lcD {elt tg iter : Expr} {ifs : List Expr} {scope : Scope} {own : List (Str × Nat)} {g : TG} {is : List Nat} {f : D → M T Unit} (i : Nat) (q : Cur X C W k cls K) (vs : List Nat) (hv : own.map (·.2) = vs) (his : ∀ i ∈ is, i ∈ vs) (hi : PE X iter (tVar i)) (ok : BlkOk X.N X.env.scope scope own)
    (hg : ∀ (s : Shared) (H : Hp) (Ca : Addr) (cl : List (Str × Addr)) (fp : List Addr), Cur (X.blk s H scope (compEnvC scope cl Ca X.env) fp) C W0 k cls K → DG (X.blk s H scope (compEnvC scope cl Ca X.env) fp) C tg g is f)
    (ht : ∀ (s : Shared) (H : Hp) (Ca : Addr) (cl : List (Str × Addr)) (fp : List Addr), Cur (X.blk s H scope (compEnvC scope cl Ca X.env) fp) C W0 k cls K → DTs (X.blk s H scope (compEnvC scope cl Ca X.env) fp) C W0 ifs tt ft)
    (he : ∀ (s : Shared) (H : Hp) (Ca : Addr) (cl : List (Str × Addr)) (fp : List Addr), Cur (X.blk s H scope (compEnvC scope cl Ca X.env) fp) C W0 k cls K → DV (X.blk s H scope (compEnvC scope cl Ca X.env) fp) C W0 elt te fe) (hs : ∀ x, foldedSetIterable iter X.env x = pure x := by intro _; rfl) :
    DE X C W (.ListComp elt [⟨tg, iter, ifs, 0⟩] scope pos) (tLk (tLc (iKeys (tVar i)) g tt te vs)) (mLc vs (mKeys i) f ft fe) := by
  subst hv
  refine ⟨pe_lk (pe_lc q.calm q.nd (pi_keys hi) ok (fun s H Ca cl fp => (hg s H Ca cl fp (q.blk _ _ _ _ _)).pe) (fun s H Ca cl fp => (ht s H Ca cl fp (q.blk _ _ _ _ _)).pe) (fun s H Ca cl fp => (he s H Ca cl fp (q.blk _ _ _ _ _)).pe) hs), ?_⟩
  exact se_lcD (hg ({} : Shared) (fun _ => none) 0 [] [] (q.blk _ _ _ _ _)).sv his (ht ({} : Shared) (fun _ => none) 0 [] [] (q.blk _ _ _ _ _)).sv (he ({} : Shared) (fun _ => none) 0 [] [] (q.blk _ _ _ _ _)).sv
end
/-! evaluation -/
def fKeys {T : Type} (s : S T) (x : Option Slot) : Res T (List D) := match x with
  | some (.fz (.dict kvs)) => .ok (kvs.map (·.1)) s
  | _ => .stuck
theorem e_keys {T : Type} (i : Nat) (e : List Slot) (t : T) : mKeys i ⟨e, t⟩ = fKeys ⟨e, t⟩ e[i]? := rfl
theorem fKeys_d {T : Type} (s : S T) (kvs : List (D × D)) : fKeys s (some (.fz (.dict kvs))) = .ok (kvs.map (·.1)) s := rfl
end Pm

set_option Elab.async false
set_option linter.all false
set_option maxRecDepth 100000
/-! == and != of two dicts whose values are plain data. -/
namespace Pm
open PySem L2 RZ
def okV (d : D) : Bool := d.canLay0 && decide (d.depth ≤ 32)
def dictR (ls : List (D × D)) : List (D × D) → Option Bool
  | [] => some true
  | (k, v) :: r => match keyOf k with
    | none => none
    | some key => match valD ls key with
      | none => some false
      | some y => if okV v && okV y then (dictR ls r).map (PyData.eqv v y && ·) else none
def dictEq (ks ls : List (D × D)) : Option Bool := if ks.length = ls.length then dictR ls ks else some false
def opEqX (a b : D) : Option D := match a, b with
  | .dict ks, .dict ls => (dictEq ks ls).map .bool
  | _, _ => opEq a b
def opNeX (a b : D) : Option D := match a, b with
  | .dict ks, .dict ls => (dictEq ks ls).map fun r => .bool (!r)
  | _, _ => opNe a b
abbrev rEqKD (K : PySem.W.Frag) (neg : Bool) : R2 := fun x y H Q => ∃ (a b : Addr) (ks ls : List (Key × V)) (F : Hp) (kd ld : List (D × D)) (r : Bool), x = .ref a ∧ y = .ref b ∧ Rd H a (.dK ks) ∧ Rd H b (.dK ls) ∧ RepKV K F ks kd ∧ RepKV K F ls ld ∧ Sub F H ∧ dictEq kd ld = some r ∧ Q (.bl (if neg = true then !r else r)) H
theorem keyOf_kD (k : Key) : keyOf (kD k) = some k := by cases k <;> rfl
section
variable {X : Cx} {pins : List (Addr × Obj)} {σ : L2.St} {H F : Hp} {s : Shared}
theorem dict_at (I : Inv X pins σ H s) {a : Addr} {ks : List (Key × V)} (h : Rd H a (.dK ks)) : (a == sysModules) = false ∧ ∃ vs, KV ks vs ∧ s.heap.DictOf (mixKind X.prog X.w) a vs := by
  rcases h with h | ⟨o, h⟩
  · obtain ⟨_, y, v, r, d⟩ := (show ObjOk X.prog X.w H s.heap a (.dK ks) from I.hok a _ h)
    exact ⟨y, v, r, d⟩
  · obtain ⟨_, _, y, v, r, d⟩ := (show ObjOk X.prog X.w H s.heap a (.frz o (.dK ks)) from I.hok a _ h)
    exact ⟨y, v, r, d⟩
open PySem.Spec PyProof.Rows in
theorem hits_of (I : Inv X pins σ H s) (sub : Sub F H) {A : Around} (hu : A.units + 64 < cLine) {ls : List (Key × V)} {ld : List (D × D)} {vb : List (Key × Value)} (rb : KV ls vb) (rl : RepKV X.K F ls ld) :
    ∀ {ks : List (Key × V)} {kd : List (D × D)} {va : List (Key × Value)} {r : Bool}, RepKV X.K F ks kd → KV ks va → dictR ld kd = some r → PySem.W.KeqHits A.in1 s vb va r
  | _, _, _, r, .nil, rv, h => by
    cases rv
    cases h
    exact .nil
  | _, _, _, r, .cons (k := k) (v := v) (d := d) (ks := ks) (ds := ds) rd t, rv, h => by
    cases rv with
    | cons hd tl =>
      rename_i q qs
      obtain ⟨k', u⟩ := q
      obtain ⟨h1, h2⟩ := hd
      have h1' : k = k' := h1
      subst h1'
      unfold dictR at h
      rw [keyOf_kD] at h
      dsimp only at h
      have rv := rb.val k
      rcases rl.val k with ⟨e1, e2⟩ | ⟨y, w, e1, e2, ry⟩
      · rw [e1] at h
        cases h
        rw [e2] at rv
        refine .miss ?_
        cases z : valueAt vb k with
        | none => rfl
        | some x => rw [z] at rv; exact (show False from rv).elim
      · rw [e1] at h
        dsimp only at h
        rw [e2] at rv
        obtain ⟨yv, hy, ry2⟩ := rv.some_of
        by_cases ok : (okV d && okV y) = true
        · rw [if_pos ok] at h
          rw [Bool.and_eq_true] at ok
          obtain ⟨o1, o2⟩ := ok
          unfold okV at o1 o2
          rw [Bool.and_eq_true] at o1 o2
          cases hr : dictR ld ds with
          | none => rw [hr] at h; cases h
          | some r' =>
            rw [hr] at h
            cases h
            obtain ⟨as, ra⟩ := Dp.reads I d v u (rd.dp sub o1.1) h2
            obtain ⟨bs, rb2⟩ := Dp.reads I y w yv (ry.dp sub o2.1) ry2
            have d1 : d.depth ≤ 32 := of_decide_eq_true o1.2
            have hr2 : A.in1.units + min d.depth y.depth < cLine := by
              have : min d.depth y.depth ≤ d.depth := Nat.min_le_left _ _
              show A.units + 1 + min d.depth y.depth < cLine
              omega
            exact .hit hy (SeqAt.eqAt_reads d y A.in1 s u yv as bs ra rb2 o1.1 o2.1 hr2) (hits_of I sub hu rb rl t tl hr)
        · rw [if_neg ok] at h; cases h
theorem op_eqKD (hu : X.A.units + 64 < cLine) : OpR X (compareOp .Eq) (rEqKD X.K false) := by
  intro pins s σ H x y v u Q I rx ry h
  obtain ⟨a, b, ks, ls, F, kd, ld, r, rfl, rfl, ha, hb, rk, rl, sub, e, q⟩ := h
  obtain rfl : v = Value.ref a := rx
  obtain rfl : u = Value.ref b := ry
  obtain ⟨ya, va, ra, da⟩ := dict_at I ha
  obtain ⟨yb, vb, rb, db⟩ := dict_at I hb
  unfold dictEq at e
  have l1 : va.length = kd.length := by rw [← ra.length, rk.length]
  have l2 : vb.length = ld.length := by rw [← rb.length, rl.length]
  by_cases hl : kd.length = ld.length
  · rw [if_pos hl] at e
    exact PySem.W.keq_eq (knd := mixKind X.prog X.w) (r := r) ya yb da db (by omega) (fun _ => hits_of I sub hu rb rl rk ra e) (fin_bl I q (by rw [l1, l2, hl]; simp))
  · rw [if_neg hl] at e
    cases e
    exact PySem.W.keq_eq (knd := mixKind X.prog X.w) (r := true) ya yb da db (by omega) (fun z => absurd (by rw [← l1, ← l2]; exact z) hl) (fin_bl I q (by rw [l1, l2]; simp [hl]))
theorem op_neKD (hu : X.A.units + 64 < cLine) : OpR X (compareOp .NotEq) (rEqKD X.K true) := by
  intro pins s σ H x y v u Q I rx ry h
  obtain ⟨a, b, ks, ls, F, kd, ld, r, rfl, rfl, ha, hb, rk, rl, sub, e, q⟩ := h
  obtain rfl : v = Value.ref a := rx
  obtain rfl : u = Value.ref b := ry
  obtain ⟨ya, va, ra, da⟩ := dict_at I ha
  obtain ⟨yb, vb, rb, db⟩ := dict_at I hb
  unfold dictEq at e
  have l1 : va.length = kd.length := by rw [← ra.length, rk.length]
  have l2 : vb.length = ld.length := by rw [← rb.length, rl.length]
  by_cases hl : kd.length = ld.length
  · rw [if_pos hl] at e
    exact PySem.W.keq_ne (knd := mixKind X.prog X.w) (r := r) ya yb da db (by omega) (fun _ => hits_of I sub hu rb rl rk ra e) (fin_bl I q (by rw [l1, l2, hl]; simp))
  · rw [if_neg hl] at e
    cases e
    exact PySem.W.keq_ne (knd := mixKind X.prog X.w) (r := true) ya yb da db (by omega) (fun z => absurd (by rw [← l1, ← l2]; exact z) hl) (fin_bl I q (by rw [l1, l2]; simp [hl]))
end
section
variable {T : Type} {C : Ct T}
theorem eqX_other {a b : D} (h : ¬ ((∃ ks, a = .dict ks) ∧ ∃ ls, b = .dict ls)) : opEqX a b = opEq a b ∧ opNeX a b = opNe a b := by
  cases a <;> cases b <;> first | exact ⟨rfl, rfl⟩ | exact absurd ⟨⟨_, rfl⟩, ⟨_, rfl⟩⟩ h
theorem rv_eqX : Rv C (rOr (rEqD C.K) (rEqKD C.K false)) opEqX := by
  intro F0 H0 L s σ F H x y a b Q g rx ry h
  by_cases hd : (∃ ks, a = .dict ks) ∧ ∃ ls, b = .dict ls
  · obtain ⟨⟨kd, rfl⟩, ld, rfl⟩ := hd
    cases rx with
    | dic hx rk =>
      cases ry with
      | dic hy rl =>
        dsimp only [opEqX] at h
        cases e : dictEq kd ld with
        | none => rw [e] at h; exact h.elim
        | some r =>
          rw [e] at h
          exact .inr ⟨_, _, _, _, F, kd, ld, r, rfl, rfl, g.sub.dic hx, g.sub.dic hy, rk, rl, g.sub, e, rv_end g h (.bl _)⟩
  · rw [(eqX_other hd).1] at h
    exact .inl (rv_eq _ _ _ _ _ _ _ _ _ _ _ _ g rx ry h)
theorem rv_neX : Rv C (rOr (rNeD C.K) (rEqKD C.K true)) opNeX := by
  intro F0 H0 L s σ F H x y a b Q g rx ry h
  by_cases hd : (∃ ks, a = .dict ks) ∧ ∃ ls, b = .dict ls
  · obtain ⟨⟨kd, rfl⟩, ld, rfl⟩ := hd
    cases rx with
    | dic hx rk =>
      cases ry with
      | dic hy rl =>
        dsimp only [opNeX] at h
        cases e : dictEq kd ld with
        | none => rw [e] at h; exact h.elim
        | some r =>
          rw [e] at h
          exact .inr ⟨_, _, _, _, F, kd, ld, r, rfl, rfl, g.sub.dic hx, g.sub.dic hy, rk, rl, g.sub, e, rv_end g h (.bl _)⟩
  · rw [(eqX_other hd).2] at h
    exact .inl (rv_ne _ _ _ _ _ _ _ _ _ _ _ _ g rx ry h)
theorem rw_eqX : Rw C (rOr (rEqD C.K) (rEqKD C.K false)) opEqX := by
  intro F0 H0 L s σ F H x y a b Q g rx ry h
  rcases rx with rx | ⟨p, xs, ds, rfl, rfl, hp, r⟩ | ⟨p, xs, ds, rfl, rfl, hp, r⟩
  · exact rv_eqX F0 H0 L s σ F H x y a b Q g rx ry h
  · exact .inl (rw_eq F0 H0 L s σ F H _ y _ b Q g (.inr (.inl ⟨p, xs, ds, rfl, rfl, hp, r⟩)) ry (by rw [(eqX_other (fun z => by obtain ⟨⟨_, z⟩, _⟩ := z; cases z)).1] at h; exact h))
  · cases ry with
    | dic hy rl =>
      rename_i q ls ld
      dsimp only [opEqX] at h
      cases e : dictEq ds ld with
      | none => rw [e] at h; exact h.elim
      | some z =>
        rw [e] at h
        exact .inr ⟨_, _, _, _, F, ds, ld, z, rfl, rfl, .inl hp, g.sub.dic hy, r, rl, g.sub, e, rv_end g h (.bl _)⟩
    | _ => exact h.elim
theorem rw_neX : Rw C (rOr (rNeD C.K) (rEqKD C.K true)) opNeX := by
  intro F0 H0 L s σ F H x y a b Q g rx ry h
  rcases rx with rx | ⟨p, xs, ds, rfl, rfl, hp, r⟩ | ⟨p, xs, ds, rfl, rfl, hp, r⟩
  · exact rv_neX F0 H0 L s σ F H x y a b Q g rx ry h
  · exact .inl (rw_ne F0 H0 L s σ F H _ y _ b Q g (.inr (.inl ⟨p, xs, ds, rfl, rfl, hp, r⟩)) ry (by rw [(eqX_other (fun z => by obtain ⟨⟨_, z⟩, _⟩ := z; cases z)).2] at h; exact h))
  · cases ry with
    | dic hy rl =>
      rename_i q ls ld
      dsimp only [opNeX] at h
      cases e : dictEq ds ld with
      | none => rw [e] at h; exact h.elim
      | some z =>
        rw [e] at h
        exact .inr ⟨_, _, _, _, F, ds, ld, z, rfl, rfl, .inl hp, g.sub.dic hy, r, rl, g.sub, e, rv_end g h (.bl _)⟩
    | _ => exact h.elim
end
section
variable {T : Type} {X : Cx} {C : Ct T} {W : WX} {k : Nat} {cls : Nat → Addr} {K : PySem.W.Frag}
theorem c_eqX {bb : Bool} (q : CurB bb X C W k cls K) : CmpD X C .Eq (rOr (rEqD K) (rEqKD K false)) opEqX := ⟨by rw [← q.hX]; exact (op_eqD q.units).or (op_eqKD q.units), by rw [← q.hK]; exact rv_eqX, by rw [← q.hK]; exact rw_eqX⟩
theorem c_neX {bb : Bool} (q : CurB bb X C W k cls K) : CmpD X C .NotEq (rOr (rNeD K) (rEqKD K true)) opNeX := ⟨by rw [← q.hX]; exact (op_neD q.units).or (op_neKD q.units), by rw [← q.hK]; exact rv_neX, by rw [← q.hK]; exact rw_neX⟩
end
end Pm

set_option Elab.async false
set_option linter.all false
set_option maxRecDepth 100000
/-! dict(x): a copy of a dict, a dict of a list of pairs. -/
namespace Pm
open PySem L2 RZ
abbrev rDictA (K : PySem.W.Frag) : List V → Hp → VK → Prop := rcOr (fun xs H Q => ∃ (a : Addr) (kvs : List (Key × V)), xs = [.ref a] ∧ Rd H a (.dK kvs) ∧ ∀ p, H p = none → Q (.ref p) (upd H p (.dK kvs)))
  (fun xs H Q => ∃ (a : Addr) (ps : List Addr) (kvs : List (Key × V)), xs = [.ref a] ∧ SqL K H a (ps.map V.ref) ∧ Paired (fun p kv => SqT K H p [kV kv.1, kv.2]) ps kvs ∧ ∀ p, H p = none → Q (.ref p) (upd H p (.dK (mergeK [] kvs))))
def pairsD : List D → Option (List (Key × D))
  | [] => some []
  | .tuple [k, v] :: r => match keyOf k, pairsD r with
    | some key, some ps => some ((key, v) :: ps)
    | _, _ => none
  | _ :: _ => none
def mergeKD : List (D × D) → List (Key × D) → List (D × D)
  | acc, [] => acc
  | acc, (k, v) :: r => mergeKD (putD acc k v) r
def dictOf : D → Option (List (D × D))
  | .dict kvs => some kvs
  | .list ps => (pairsD ps).map (mergeKD [])
  | _ => none
def mDictOf {T : Type} (f : M T D) : M T Slot := mBind f fun d => mLift ((dictOf d).map .od)
theorem rep_merge {K : PySem.W.Frag} {F : Hp} : ∀ {vs : List (Key × V)} {ds : List (Key × D)} {acc : List (Key × V)} {ad : List (D × D)}, RepKV K F acc ad → Paired (fun (p : Key × V) (q : Key × D) => p.1 = q.1 ∧ Rep K F p.2 q.2) vs ds → RepKV K F (mergeK acc vs) (mergeKD ad ds)
  | _, _, _, _, r, .nil => r
  | (k, v) :: vs, (k', d) :: ds, _, _, r, .cons h t => by
    obtain ⟨h1, h2⟩ := h
    have h1' : k = k' := h1
    subst h1'
    show RepKV K F (mergeK (putK _ k v) vs) (mergeKD (putD _ k d) ds)
    exact rep_merge (RepKV.put (k := k) (v := v) (d := d) r h2) t
theorem rep_pairs {K : PySem.W.Frag} {F H : Hp} (sub : Sub F H) : ∀ {xs : List V} {ds : List D} {ps : List (Key × D)}, RepL K F xs ds → pairsD ds = some ps → ∃ (as : List Addr) (kvs : List (Key × V)), xs = as.map V.ref ∧ Paired (fun p kv => SqT K H p [kV kv.1, kv.2]) as kvs ∧ Paired (fun (p : Key × V) (q : Key × D) => p.1 = q.1 ∧ Rep K F p.2 q.2) kvs ps
  | _, _, _, .nil, h => by
    cases h
    exact ⟨[], [], rfl, .nil, .nil⟩
  | _, _, ps, .cons (ds := ds) r t, h => by
    cases r with
    | tup hx rx =>
      rename_i a ys es
      cases rx with
      | nil => cases h
      | cons r1 t1 =>
        cases t1 with
        | nil => cases h
        | cons r2 t2 =>
          cases t2 with
          | cons _ _ => cases h
          | nil =>
            unfold pairsD at h
            rename_i v1 d1 v2 d2
            cases hk : keyOf d1 with
            | none => rw [hk] at h; cases h
            | some key =>
              cases hp : pairsD ds with
              | none => rw [hk, hp] at h; cases h
              | some ps' =>
                rw [hk, hp] at h
                cases h
                obtain ⟨as, kvs, e, p1, p2⟩ := rep_pairs sub t hp
                obtain ⟨e1, e2⟩ := keyOf_rep r1 hk
                subst e1
                exact ⟨a :: as, (key, v2) :: kvs, by rw [e]; rfl, .cons (sub.tup hx) p1, .cons ⟨rfl, r2⟩ p2⟩
    | _ => cases h
section
variable {T : Type} {C : Ct T} {W : WX} {X : Cx} {k : Nat} {cls : Nat → Addr} {K : PySem.W.Frag} {a : Expr} {p pos : Pos} {ta : TE} {fa : M T D}
theorem se_dictOf (h : Sv C W ta fa) : Se C W (tCB (rDictA C.K) (tCons ta tNil)) (mDictOf fa) := by
  intro F0 H0 L s σ F H Q g q
  refine h _ _ _ _ _ _ _ _ g (po_imp (po_bind q) fun d s1 F1 H1 g1 e1 h1 v rv => ?_)
  obtain ⟨x, q2, h2⟩ := po_lift h1
  have fin : ∀ (ys : List (Key × V)) (ds : List (D × D)), RepKV C.K F1 ys ds → x = .od ds → ∀ l, H1 l = none → Q (.ref l) (upd H1 l (.dK ys)) := fun ys ds r ex l hl => by
    subst ex
    exact po_ret h2 (g1.alloc hl) _ ⟨l, ys, rfl, Tmp.fresh g1 hl, upd_same, r⟩
  cases rv with
  | dic hx r => cases q2; exact .inl ⟨_, _, rfl, g1.sub.dic hx, fin _ _ r rfl⟩
  | lst hx r =>
    rename_i a xs ds
    have q2 : ((pairsD ds).map (mergeKD [])).map Slot.od = some x := q2
    cases hp : pairsD ds with
    | none => rw [hp] at q2; cases q2
    | some ps =>
      rw [hp] at q2
      cases q2
      obtain ⟨as, kvs, e, p1, p2⟩ := rep_pairs g1.sub r hp
      exact .inr ⟨a, as, kvs, rfl, SqL.of (by rw [← e]; exact g1.sub.lst hx), p1, fin _ _ (rep_merge .nil p2) rfl⟩
  | _ => cases q2
theorem de_dictOf (q : Cur X C W k cls K) (hm : X.mg "dict" = none) (ha : DV X C W a ta fa) (hg : Gl X "dict" := by rfl) (he : starEach [a] X.env = (false, eval a X.env) :: starEach [] X.env := by rfl) : DE X C W (.Call (.Name "dict" p) [a] [] pos) (tCB (rDictA K) (tCons ta tNil)) (mDictOf fa) :=
  ⟨by rw [← q.hX]; exact pe_callTy (call_dictD.or (call_dictP q.calm)) hg hm PyProof.Rows.boot_dict (pa_cons ha.pe pa_nil he) (by decide) (by decide) he (by rfl), by rw [← q.hK]; exact se_dictOf ha.sv⟩
end
/-! evaluation -/
def fDictOf {T : Type} (r : Res T D) : Res T Slot := match r with
  | .ok d s => (match dictOf d with | some kvs => .ok (.od kvs) s | none => .stuck)
  | .exc c s => .exc c s
  | .stuck => .stuck
theorem e_dictOf {T : Type} (f : M T D) (s : S T) : mDictOf f s = fDictOf (f s) := by
  show fB _ (f s) = _
  cases f s with
  | ok d s1 => show mLift ((dictOf d).map Slot.od) s1 = fDictOf (.ok d s1); unfold fDictOf; dsimp only; cases dictOf d <;> rfl
  | exc c s1 => rfl
  | stuck => rfl
theorem fDictOf_d {T : Type} (kvs : List (D × D)) (s : S T) : fDictOf (.ok (.dict kvs) s) = .ok (.od kvs) s := rfl
theorem fDictOf_l {T : Type} {xs : List D} {kvs : List (D × D)} (h : dictOf (.list xs) = some kvs) (s : S T) : fDictOf (.ok (.list xs) s) = .ok (.od kvs) s := by
  unfold fDictOf
  dsimp only
  rw [h]
end Pm

set_option Elab.async false
set_option linter.all false
set_option maxRecDepth 100000
/-! A tuple that stands in the module. -/
namespace Pm
open PySem L2 RZ
section
variable {T : Type} {X : Cx} {C : Ct T} {W : WX} {k : Nat} {cls : Nat → Addr} {K : PySem.W.Frag} {pos : Pos}
theorem dv_globT {bb : Bool} (q : CurB bb X C W k cls K) {x : Str} {a : Addr} {vs : List V} {ds : List D} (hm : X.mg x = some (.ref a)) (hs : SqT K (fun _ => none) a vs) (hz : ∃ z r, vs = V.str z :: r) (hr : ∀ F, RepL K F vs ds) (hg : Gl X x := by rfl) (hd : (x == ("__debug__" : Str)) = false := by decide) : DV X C W (.Name x pos) (tC (.ref a)) (mRet (.tuple ds)) := by
  have hs2 : ∀ F, SqF K F a vs := fun F => by
    rcases hs with (h | ⟨o, h⟩) | h
    · cases h
    · cases h
    · exact .inr ⟨hz, h⟩
  exact dv_glob hm rfl (fun F => by rw [q.hK]; exact .tup (hs2 F) (hr F)) hg hd
end
def fListOf {T : Type} (r : Res T D) : Res T Slot := match r with
  | .ok d s => (match listOf d with | some xs => .ok (.ol xs) s | none => .stuck)
  | .exc c s => .exc c s
  | .stuck => .stuck
theorem e_listOf {T : Type} (f : M T D) (s : S T) : mListOf f s = fListOf (f s) := by
  show fB _ (f s) = _
  cases f s with
  | ok d s1 => show mLift ((listOf d).map Slot.ol) s1 = fListOf (.ok d s1); unfold fListOf; dsimp only; cases listOf d <;> rfl
  | exc c s1 => rfl
  | stuck => rfl
theorem fListOf_t {T : Type} (xs : List D) (s : S T) : fListOf (.ok (.tuple xs) s) = .ok (.ol xs) s := rfl
theorem fListOf_l {T : Type} (xs : List D) (s : S T) : fListOf (.ok (.list xs) s) = .ok (.ol xs) s := rfl
theorem fListOf_d {T : Type} (kvs : List (D × D)) (s : S T) : fListOf (.ok (.dict kvs) s) = .ok (.ol (kvs.map (·.1))) s := rfl
end Pm

set_option Elab.async false
set_option linter.all false
set_option maxRecDepth 100000
/-! A lambda of one name, called: over the heap alone. -/
namespace Pm
open PySem PySem.Spec PyProof.Rows L2
section
variable {prog : Program} {w : World} {A : Around} {s : Shared}
theorem lam_call1 {f c' : Addr} {q x : Str} {params : Arguments} {body : Expr} {scope : Scope} {cl : List (Str × Addr)} {pm ctv v : Value} {Q : Value → Shared → Prop} (hd : A.depth < recursionLimit)
    (ho : s.heap.get? f = some (PySem.W.kla_obj "<lambda>" q params body scope cl pm c' ctv)) (hc : s.heap.CodeRec (.ref c') q) (hco : scope.isCoroutine = false) (hgen : scope.isGenerator = false) (hk : scope.kind = .function)
    (hb : bindArgs (PySem.W.kla_fn "<lambda>" q params body scope cl pm (.ref c') ctv) ⟨[v], []⟩ = pure [(x, v)]) (hx : scope.names.lookup x = some .local) (hnc : ∀ y ∈ scope.names, y.2 ≠ .cell) (lim : s.heap.NoLimit)
    (h : ∀ (L : Addr) (h₁ : Heap), h₁.Ns L (fun y => [(x, v)].reverse.lookup y) → (∀ b o, s.heap.get? b = some o → h₁.get? b = some o) →
      wpAny (model prog w) (A.deeper (PySem.W.envX q scope L f (.ref c') cl)) (eval body (PySem.W.envX q scope L f (.ref c') cl)) Q (fun _ _ => False) { s with heap := h₁, toks := s.toks + 1 }) :
    wpAny (model prog w) A (call (.ref f) [v]) Q (fun _ _ => False) s := by
  refine wpAny_call (codeAny_mono (R := fun r s' => match r with | .ok (.ret v) => Q v s' | .ok _ => False | .error e => False) (PySem.W.kla_callFunE hd ho rfl hco hgen rfl hc ?_) fun r s' hr => hr)
  rw [hb]
  refine wpAny_pure (wpAny_newFunctionEnv hnc (fun y hy => ?_) (fun h₁ hns hsb => ⟨lim.fresh _ hsb, ?_⟩) hk)
  · have e : y = (x, v) := by simpa using hy
    rw [e]
    exact hx
  · have kp : ∀ b o, s.heap.get? b = some o → h₁.get? b = some o := fun b o e => hsb.extBut b o (Nat.ne_of_lt (Heap.lt_size e)) (Heap.get?_push_of_some _ e)
    show codeAny _ _ (.expr body (PySem.W.envX q scope s.heap.objs.size f (.ref c') cl)) _ _
    exact PySem.W.kla_codeExpr (wpAny_mono (h _ h₁ hns kp) (fun v s' hq => hq) fun e s' hq => hq.elim)

theorem IsSliceNew {h : Heap} {vl vu : Value} : (h.push { cls := .type "slice", data := .fields #[vl, vu, .none] }).IsSliceOf h.objs.size vl vu .none := Heap.IsSliceOf.new ..
/-- x[:2] of a tuple of three and more -/
theorem cut2_eval {env : Env} {x : Str} {a : Addr} {items : Array Value} {m : Str → Option Value} {p1 p2 p3 pos : Pos} {kc : Nat} {u0 u1 : Value} {k0 k1 : PyData} {h₁ : Heap} {tk : Nat} {rest : List Value} (hk : env.scope.kind = .function) (hl : env.kindOf x = some .local) (hn : h₁.Ns env.locals m) (hv : m x = some (.ref a)) (hd : (x == ("__debug__" : Str)) = false)
    (ht : IsTup s.heap a items) (hi : items.toList = u0 :: u1 :: rest) (hr : rest ≠ []) (hz : items.size ≤ sizeLine) (r0 : Reads s.heap u0 k0 []) (r1 : Reads s.heap u1 k1 []) (hkp : ∀ b o, s.heap.get? b = some o → h₁.get? b = some o) :
    wpAny (model prog w) A (eval (.Subscript (.Name x p1) (.Slice none (some (.Constant (.int 2) kc p2)) none p3) pos) env) (PySem.W.KeyPure (.tuple [k0, k1]) s) (fun _ _ => False) { s with heap := h₁, toks := tk } := by
  refine PySem.Subscript_Slice (wpAny_Name (wpAny_loadName_local hk hl hn hv ?_) hd)
  refine wpAny_Slice ?_
  rw [evalPart_none]
  refine wpAny_pure ?_
  rw [evalPart_some]
  refine wpAny_Constant_int ?_
  refine wpAny_pure ?_
  have hsz : items.size = rest.length + 2 := by rw [← Array.length_toList, hi]; rfl
  have hrl : 0 < rest.length := List.length_pos_iff.mpr hr
  have e0 : HT.sIx items.size 0 none = 0 := rfl
  have e2 : HT.sIx items.size items.size (some 2) = 2 := by
    rw [hsz]
    simp [HT.sIx]
  have up : ∀ b o, s.heap.get? b = some o → (h₁.push { cls := .type "slice", data := .fields #[.none, .int 2 tk, .none] }).get? b = some o := fun b o e => Heap.get?_push_of_some _ (hkp b o e)
  refine ⟨"tuple", _, PyProof.Rows.slot_tuple_getitem.lookup, (ht.keeps up).typeIs, ?_⟩
  refine HT.getItem_tuple_cut (lo := none) (hi := some 2) (ht.keeps up) IsSliceNew .none (.int 2 _) (by rw [e0, e2, hsz]; omega) ?_ hz
  rw [e0, e2, hi]
  refine ⟨_, _, rfl, fun b o e => Heap.get?_push_of_some _ (up b o e), ?_⟩
  have kp : ∀ o b u, s.heap.get? b = some u → ((h₁.push { cls := .type "slice", data := .fields #[.none, .int 2 tk, .none] }).push o).get? b = some u := fun o b u e => Heap.get?_push_of_some _ (up b u e)
  exact .tuple (Heap.get?_push_size _ rfl) rfl rfl (ReadsAll.cons (PyProof.Rows.Reads.keeps (kp _) r0) (ReadsAll.cons (PyProof.Rows.Reads.keeps (kp _) r1) .nil))
/-- x[i] of a tuple, over the heap -/
theorem ixT_eval {env : Env} {x : Str} {a : Addr} {items : Array Value} {m : Str → Option Value} {p1 p2 pos : Pos} {kc : Nat} {u : Value} {h₁ : Heap} {tk : Nat} {i : Nat} {Q : Value → Shared → Prop} {E : Value → Shared → Prop} (hk : env.scope.kind = .function) (hl : env.kindOf x = some .local) (hn : h₁.Ns env.locals m) (hv : m x = some (.ref a)) (hd : (x == ("__debug__" : Str)) = false)
    (ht : IsTup h₁ a items) (hi : items.toList[i]? = some u) (hz : items.size ≤ sizeLine) (q : Q u { s with heap := h₁, toks := tk + 1 }) :
    wpAny (model prog w) A (eval (.Subscript (.Name x p1) (.Constant (.int (i : Int)) kc p2) pos) env) Q E { s with heap := h₁, toks := tk } := by
  refine PySem.Subscript_Constant (wpAny_Name (wpAny_loadName_local hk hl hn hv ?_) hd)
  refine wpAny_Constant_int ?_
  refine ⟨"tuple", _, PyProof.Rows.slot_tuple_getitem.lookup, ht.typeIs, ?_⟩
  have hlt : i < items.size := by
    have := (List.getElem?_eq_some_iff.mp hi).1
    rwa [Array.length_toList] at this
  have h63 : sizeLine = 16777216 := sizeLine_eq
  refine PyProof.Rows.getItem_tuple (j := i) (x := u) ht (by omega) (by omega) ?_ (by rw [← Array.getElem?_toList]; exact hi) q
  unfold seqIndex?
  simp
  omega
/-- x[0] * (y // x[1]), y a captured name -/
theorem part_eval {env : Env} {x y : Str} {a c : Addr} {items : Array Value} {m : Str → Option Value} {p1 p2 p3 p4 p5 p6 p7 p8 p9 : Pos} {k1 k2 : Nat} {n d wh : Int} {t0 t1 t2 : Tok} {rest : List Value} {h₁ : Heap} {tk : Nat} (hk : env.scope.kind = .function) (hl : env.kindOf x = some .local) (hn : h₁.Ns env.locals m) (hv : m x = some (.ref a)) (hd : (x == ("__debug__" : Str)) = false)
    (hy : env.kindOf y = some .free) (hc : env.cells.lookup y = some c) (hcv : h₁.IsCell c (some (.int wh t2))) (hdy : (y == ("__debug__" : Str)) = false) (hcd : (y == ("__classdict__" : Str)) = false)
    (ht : IsTup h₁ a items) (hi : items.toList = .int n t0 :: .int d t1 :: rest) (hz : items.size ≤ sizeLine) (hdv : L2.CDivW wh d) (hml : L2.CMulW n (wh / d)) (hkp : ∀ b o, s.heap.get? b = some o → h₁.get? b = some o) :
    wpAny (model prog w) A (eval (.BinOp (.Subscript (.Name x p1) (.Constant (.int 0) k1 p2) p3) .Mult (.BinOp (.Name y p4) .FloorDiv (.Subscript (.Name x p5) (.Constant (.int 1) k2 p6) p7) p8) p9) env) (PySem.W.KeyPure (.int (n * (wh / d))) s) (fun _ _ => False) { s with heap := h₁, toks := tk } := by
  refine wpAny_BinOp (ixT_eval (i := 0) hk hl hn hv hd ht (by rw [hi]; rfl) hz ?_)
  refine wpAny_BinOp (wpAny_Name (wpAny_loadName_free hk hy hc hcv ?_ hcd) hdy)
  refine ixT_eval (s := s) (i := 1) hk hl hn hv hd ht (by rw [hi]; rfl) hz ?_
  have hd0 : (0 : Int) < d := hdv.1
  refine floordiv_int (by omega) ?_ (.inl (PyProof.noPylong_of_log2 hdv.2))
  rw [Int.fdiv_eq_ediv_of_nonneg wh (by omega)]
  refine mul_int ?_ hml.ok
  exact ⟨_, _, rfl, hkp, .int _ _⟩
end
end Pm

set_option Elab.async false
set_option linter.all false
set_option maxRecDepth 100000
/-! sorted(xs, key=lambda ..). -/
namespace Pm
open PySem PySem.Spec PyProof.Rows L2 LamX
/-- the lambda's object -/
abbrev lamO (q : Str) (params : Arguments) (body : Expr) (scope : Scope) (cl : List (Str × Addr)) (c' : Addr) (f : Addr) (h : Heap) : Prop := ∃ pm ctv : Value, h.get? f = some (PySem.W.kla_obj "<lambda>" q params body scope cl pm c' ctv)
section
variable {X : Cx} {pins : List (Addr × Obj)} {σ : L2.St} {H : Hp} {s : Shared}
theorem inv_lam {q : Str} {params : Arguments} {body : Expr} {scope : Scope} {cl : List (Str × Addr)} {c' : Addr} {pm ctv : Value} {h : Heap} {tk : Nat} {g : Array GenState} {d : Drawn} {os : OsState} (I : Inv X pins σ H ⟨h, g, d, tk, os⟩) :
    Inv X pins σ (upd H h.objs.size (.ext (lamO q params body scope cl c' h.objs.size))) ⟨h.push (PySem.W.kla_obj "<lambda>" q params body scope cl pm c' ctv), g, d, tk, os⟩ := by
  refine I.laid (t' := tk) (a := h.objs.size) (fun b u e => Heap.get?_push_of_some _ e) (Nat.le_refl _) ?_
  have e : (h.push (PySem.W.kla_obj "<lambda>" q params body scope cl pm c' ctv)).get? h.objs.size = some (PySem.W.kla_obj "<lambda>" q params body scope cl pm c' ctv) := Heap.get?_push_size _ rfl
  exact ⟨⟨pm, ctv, e⟩, ⟨_, e⟩, fun h1 h2 ⟨p, t, z⟩ st => ⟨p, t, st _ z⟩⟩
/-- a lambda is made: its code object is known, or new -/
theorem lam_make3 {c P : Addr} {q : Str} {ps : Array Value} {params : Arguments} {body : Expr} {scope : Scope} {pos : Pos} {E : Value → Shared → Prop} {Q : Value → Shared → Prop} (I : Inv X pins σ H s) (TB : TabB X.base X.mg c P) (hcode : X.env.code = .ref c)
    (hP : H P = some (.tbl ps)) (ht : TriplesOk ps.toList) (ha : ∀ (pos : Pos) (cv : Value), codeAmong pos ps.toList = some cv → ∃ c, cv = .ref c ∧ H c = some (CodeO c q)) (hq : X.env.qual ++ "<lambda>" = q) (hdef : defaultsOf params X.env = ([], [])) (hfree : ∀ y ∈ scope.names, y.2 = .free → ∃ c, X.env.cells.lookup y.1 = some c)
    (h : ∀ (f c' : Addr) (H1 : Hp) (s' : Shared), Inv X pins σ (upd H1 f (.ext (lamO q params body scope (cloFrom X.env.cells scope.names []) c' f))) s' → H1 f = none → H1 c' = some (CodeO c' q) →
      (H1 = H ∨ (H c' = none ∧ ∃ ps' : Array Value, H1 = upd (upd H P (.tbl ps')) c' (CodeO c' q) ∧ TriplesOk ps'.toList ∧ ∀ (pos : Pos) (cv : Value), codeAmong pos ps'.toList = some cv → codeAmong pos ps.toList = some cv ∨ cv = .ref c')) → Q (.ref f) s') :
    wpAny (model X.prog X.w) X.A (eval (.Lambda params body scope pos) X.env) Q E s := by
  subst hq
  refine PySem.W.kla_eval hdef ?_
  have bP : s.heap.BuiltinsAt X.mg P := TB.bm.keeps I.bk
  have hP' : s.heap.get? P = some { cls := .none, data := .fields ps } := I.hok P _ hP
  cases hc : codeAmong pos ps.toList with
  | none =>
    refine PySem.W.kla_makeFunction (mg := X.mg) (c := c) (P := P) (ps := ps) (closure_ok hfree) I.ok.glob (I.mod.glob.keeps I.bk) hcode (TB.code.keeps I.bk) hP' ht hc TB.gP bP fun c' ctv h' tk hx hge hlt hrec htb => ?_
    obtain ⟨c2, oc, vs, t, e2, hoc, hd, hv⟩ := hrec
    cases e2
    have nC : H c' = none := I.hok.fresh hge
    have I1 := inv_table (t' := tk) (more := #[rawInt pos.line, rawInt pos.col, .ref c']) (h' := h') I hP (fun b o hb e => hx b o hb e) htb hge ⟨oc, vs, t, hoc, hd, hv⟩
    have eL : (ps ++ #[rawInt pos.line, rawInt pos.col, .ref c']).toList = ps.toList ++ [rawInt pos.line, rawInt pos.col, .ref c'] := by simp
    refine h h'.objs.size c' _ _ (inv_lam I1) (I1.hok.fresh (Nat.le_refl _)) upd_same (.inr ⟨nC, _, rfl, by rw [eL]; exact PySem.TriplesOk_snoc _ _ _ _ ht, fun p' cv hcv => ?_⟩)
    rw [eL] at hcv
    exact among_app _ ht hcv
  | some cv =>
    obtain ⟨c', e, hco⟩ := ha pos cv hc
    subst e
    refine PySem.W.kla_makeFunctionHit (mg := X.mg) (c := c) (P := P) (ps := ps) (closure_ok hfree) I.ok.glob (I.mod.glob.keeps I.bk) hcode (TB.code.keeps I.bk) hP' ht hc bP fun ctv h' tk hx hsz => ?_
    have I1 : Inv X pins σ H { s with heap := h', toks := tk } := I.kept fun b o e => hx b o e
    exact h h'.objs.size c' H _ (inv_lam I1) (I1.hok.fresh (Nat.le_refl _)) hco (.inl rfl)
/-- the lambda's object, known -/
def lamHO (q : Str) (params : Arguments) (body : Expr) (scope : Scope) (cl : List (Str × Addr)) (c' f : Addr) : HO := .ext (lamO q params body scope cl c' f)
theorem lamHO_at {P : Program} {w : World} {h : Heap} {q : Str} {params : Arguments} {body : Expr} {scope : Scope} {cl : List (Str × Addr)} {c' f : Addr} (hok : HOk P w H h) (e : H f = some (lamHO q params body scope cl c' f)) : lamO q params body scope cl c' f h := by
  obtain ⟨z, _, _⟩ := hok f _ e
  exact z
end
/-- the lambda, read: the table may have grown, the object is new -/
def tLm (X : Cx) (P : Addr) (q : Str) (params : Arguments) (body : Expr) (scope : Scope) : TE := fun _ H Q => ∃ ps : Array Value, H P = some (.tbl ps) ∧ TriplesOk ps.toList ∧ (∀ (pos : Pos) (cv : Value), codeAmong pos ps.toList = some cv → ∃ c, cv = .ref c ∧ H c = some (CodeO c q)) ∧
  ∀ (f c' : Addr) (H1 : Hp), H1 f = none → H1 c' = some (CodeO c' q) → (H1 = H ∨ (H c' = none ∧ ∃ ps' : Array Value, H1 = upd (upd H P (.tbl ps')) c' (CodeO c' q) ∧ TriplesOk ps'.toList ∧ ∀ (pos : Pos) (cv : Value), codeAmong pos ps'.toList = some cv → codeAmong pos ps.toList = some cv ∨ cv = .ref c')) →
    Q (.ref f) (upd H1 f (lamHO q params body scope (cloFrom X.env.cells scope.names []) c' f))
/-- what a lambda gives for an item, as data: a call of it keeps the heap -/
def BodyRun (X : Cx) (q : Str) (params : Arguments) (body : Expr) (scope : Scope) (KeyOk : L2.St → Hp → V → PyData → Prop) : Prop := ∀ (pins : List (Addr × Obj)) (s : Shared) (σ : L2.St) (H : Hp) (x : V) (v : Value) (k : PyData) (f c' : Addr) (A : Around) (h : Heap) (tk : Nat), Inv X pins σ H s → RelV x v → KeyOk σ H x k → H f = some (lamHO q params body scope (cloFrom X.env.cells scope.names []) c' f) → H c' = some (CodeO c' q) → A.depth < recursionLimit → (∀ b o, s.heap.get? b = some o → h.get? b = some o) →
  wpAny (model X.prog X.w) A (call (.ref f) [v]) (PySem.W.KeyPure k { s with heap := h, toks := tk }) (fun _ _ => False) { s with heap := h, toks := tk }
section
variable {X : Cx} {pos kpos lpos p : Pos} {e : Expr} {te : TE}
theorem pe_lam {c P : Addr} {q : Str} {params : Arguments} {body : Expr} {scope : Scope} (TB : TabB X.base X.mg c P) (hcode : X.env.code = .ref c) (hq : X.env.qual ++ "<lambda>" = q) (hdef : defaultsOf params X.env = ([], []) := by rfl)
    (hfree : ∀ y ∈ scope.names, y.2 = .free → X.env.scope.names.lookup y.1 = some .cell ∨ X.env.scope.names.lookup y.1 = some .free) : PE X (.Lambda params body scope lpos) (tLm X P q params body scope) := by
  refine ⟨fun pins s σ H Q I h => ?_⟩
  obtain ⟨ps, hP, ht, ha, h⟩ := h
  exact lam_make3 I TB hcode hP ht ha hq hdef (fun y hy e => (hfree y hy e).elim (fun z => I.ok.has _ (.inl z)) fun z => I.ok.has _ (.inr z)) fun f c' H1 s' I1 hf hc cs => ⟨.ref f, _, I1, rfl, h f c' H1 hf hc cs⟩
def SortFin (X : Cx) (q : Str) (params : Arguments) (body : Expr) (scope : Scope) (KeyOk : L2.St → Hp → V → PyData → Prop) (σ : L2.St) (x z : V) (H2 : Hp) (Q : VK) : Prop := ∃ (a f c' : Addr) (bs : List (V × PyData)), x = .ref a ∧ z = .ref f ∧ SqL X.K H2 a (bs.map Prod.fst) ∧
  H2 f = some (lamHO q params body scope (cloFrom X.env.cells scope.names []) c' f) ∧ H2 c' = some (CodeO c' q) ∧ (∀ b ∈ bs, KeyOk σ H2 b.1 b.2) ∧ PySem.W.AllAlike (bs.map Prod.snd) ∧ PySem.W.Sortable (bs.map Prod.snd) ∧ bs.length ≤ 1000000 ∧ (∀ b ∈ bs, b.2.depth ≤ 30) ∧
  ∀ p, H2 p = none → Q (.ref p) (upd H2 p (.lst ((bs.mergeSort (PySem.W.dataLe false Prod.snd)).map Prod.fst)))
def tSortL (X : Cx) (te tl : TE) (q : Str) (params : Arguments) (body : Expr) (scope : Scope) (KeyOk : L2.St → Hp → V → PyData → Prop) : TE := fun σ H Q => te σ H fun x H1 => tl σ H1 fun z H2 => SortFin X q params body scope KeyOk σ x z H2 Q
theorem sort_fin {q : Str} {params : Arguments} {body : Expr} {scope : Scope} {KeyOk : L2.St → Hp → V → PyData → Prop} {pins : List (Addr × Obj)} {s : Shared} {σ : L2.St} {H : Hp} {x z : V} {u w : Value} {Q : VK} (hu : X.A.units + 64 < cLine) (hdp : X.A.depth < recursionLimit) (hb : BodyRun X q params body scope KeyOk) (I : Inv X pins σ H s) (rx : L2.RelV x u) (rz : L2.RelV z w) (h : SortFin X q params body scope KeyOk σ x z H Q) :
    wpAny (model X.prog X.w) X.A (call (.builtin "sorted") [u] [(Str.ofString "key", w)]) (EP X pins σ Q) X.xe s := by
  obtain ⟨a, f, c', bs, rfl, rfl, hS, hf, hc, hk, hal, hso, hlen, hdep, q⟩ := h
  cases (show u = Value.ref a from rx)
  cases (show w = Value.ref f from rz)
  obtain ⟨its, rv, pl, hz⟩ := I.list hS
  -- the items with their keys
  have hE : PySem.W.EachIs (fun (v : Value) (b : V × PyData) => L2.RelV b.1 v) its bs := by
    clear hk hal hso hlen hdep q hS hz pl
    induction bs generalizing its with
    | nil => cases rv; exact .nil
    | cons b bs ih =>
      cases rv with
      | cons r1 r2 => exact .cons r1 (ih _ r2)
  refine PySem.W.sorted_key_data (b := false) (R := fun (v : Value) (b : V × PyData) => L2.RelV b.1 v) Prod.snd pl.isList hE hal hso (by rw [sizeLine_eq]; omega) (fun b hb' => ?_) (ksk_s1 _ _) (fun _ => ksk_l1 _ _) (fun _ => ksk_t1 _ _)
    (fun v b hR hm h tk kp => hb pins s σ H b.1 v b.2 f c' _ h tk I hR (hk b hm) hf hc hdp kp) fun out c h' tk kp fr hD hl eo => ?_
  · have := hdep b hb'
    omega
  · have rv2 : Vals ((bs.mergeSort (PySem.W.dataLe false Prod.snd)).map Prod.fst) out := by
      clear hD hl
      generalize bs.mergeSort (PySem.W.dataLe false Prod.snd) = cs at eo
      induction eo with
      | nil => exact .nil
      | cons r1 _ ih => exact .cons r1 ih
    have hlo : out.length ≤ sizeLine := by rw [hl, sizeLine_eq]; omega
    refine ⟨.ref (s.heap.objs.size + 1), _, I.laid (t' := tk) (a := s.heap.objs.size + 1) kp (Nat.le_succ _) (show ObjOk X.prog X.w _ _ _ (.lst ((bs.mergeSort (PySem.W.dataLe false Prod.snd)).map Prod.fst)) from ⟨by rw [rv2.length]; exact hlo, out, c, rv2, hD⟩), rfl, q _ (I.hok.fresh (Nat.le_succ _))⟩
theorem pe_sortL {q : Str} {params : Arguments} {body : Expr} {scope : Scope} {tl : TE} {KeyOk : L2.St → Hp → V → PyData → Prop} (hu : X.A.units + 64 < cLine) (hdp : X.A.depth < recursionLimit) (hm : X.mg "sorted" = none) (he : PE X e te) (hl : PE X (.Lambda params body scope lpos) tl) (hb : BodyRun X q params body scope KeyOk) (hg : Gl X "sorted" := by rfl)
    (hst : backTo pos (starEach [e] X.env) = (false, eval e X.env) :: backTo pos (starEach [] X.env) := by rfl) (hpl : (backTo pos (starEach [e] X.env)).any (·.1) = false := by rfl) (hes : starEach [e] X.env = (false, eval e X.env) :: starEach [] X.env := by rfl) :
    PE X (.Call (.Name "sorted" p) [e] [⟨some "key", .Lambda params body scope lpos, kpos⟩] pos) (tSortL X te tl q params body scope KeyOk) := by
  refine ⟨fun pins s σ H Q I h => ?_⟩
  refine wpAny_Call_Name_kw (ld_blt I hg hm PyProof.Rows.boot_sorted ?_ (by decide) (by decide))
  refine PyProof.Rows.callWith_kw (thn ((pa_cons he pa_nil hes).run pos pins s σ H (fun vs H1 => match vs with | [x] => tl σ H1 fun z H2 => SortFin X q params body scope KeyOk σ x z H2 Q | _ => False) I h) fun us s1 ⟨vs, H1, I1, r1, q1⟩ => ?_) hst hpl rfl rfl
  match vs, r1, q1 with
  | [x], r1, q1 =>
    refine thn ((pk_cons hl pk_nil).run pos pins s1 σ H1 (fun zs H2 => match zs with | [z] => SortFin X q params body scope KeyOk σ x z H2 Q | _ => False) I1 q1) fun ws s2 ⟨zs, H2, I2, r2, q2⟩ => ?_
    match zs, r2, q2 with
    | [z], r2, q2 =>
      obtain ⟨u, eu, rx⟩ := vals1 r1
      obtain ⟨w, ew, rz⟩ := vals1 r2
      subst eu ew
      exact sort_fin hu hdp hb I2 rx rz q2
end
end Pm

set_option Elab.async false
set_option linter.all false
set_option maxRecDepth 100000
/-! The bodies of the two lambdas; a lambda made in the town; sorted(list, key=lambda ..). -/
namespace Pm
open PySem PySem.Spec PyProof.Rows L2 LamX RZ
/-- a lambda of one name -/
structure Lam1 (q : Str) (params : Arguments) (scope : Scope) (x : Str) : Prop where
  co : scope.isCoroutine = false
  gen : scope.isGenerator = false
  kind : scope.kind = .function
  bind : ∀ (body : Expr) (cl : List (Str × Addr)) (pm cv ctv v : Value), bindArgs (PySem.W.kla_fn "<lambda>" q params body scope cl pm cv ctv) ⟨[v], []⟩ = pure [(x, v)]
  lx : scope.names.lookup x = some .local
  nc : ∀ y ∈ scope.names, y.2 ≠ .cell
def Key2 (K : PySem.W.Frag) (_ : L2.St) (H : Hp) (x : V) (k : PyData) : Prop := ∃ (a : Addr) (i : Int) (z : Str) (rest : List V), x = .ref a ∧ SqT K H a (.int i :: .str z :: rest) ∧ rest ≠ [] ∧ k = .tuple [.int i, .str z]
theorem body_cut2 {X : Cx} {q : Str} {params : Arguments} {scope : Scope} {x : Str} {p1 p2 p3 pos : Pos} {kc : Nat} (S : Lam1 q params scope x) (hd : (x == ("__debug__" : Str)) = false) :
    BodyRun X q params (.Subscript (.Name x p1) (.Slice none (some (.Constant (.int 2) kc p2)) none p3) pos) scope (Key2 X.K) := by
  intro pins s σ H y v k f c' A h tk I rv hk hf hc hdp kp
  obtain ⟨a, i, z, rest, rfl, hS, hr, rfl⟩ := hk
  cases (show v = Value.ref a from rv)
  obtain ⟨its, r, ht, hz⟩ := I.tuple hS
  cases r with
  | cons r0 r =>
    cases r with
    | cons r1 r =>
      rename_i us
      obtain ⟨t0, rfl⟩ := r0
      obtain ⟨t1, rfl⟩ := r1
      obtain ⟨pm, ctv, ho⟩ := lamHO_at I.hok hf
      obtain ⟨⟨oc, vs, t, h1, h2, h3⟩, _, _⟩ := I.hok c' _ hc
      refine lam_call1 (x := x) hdp (kp _ _ ho) ⟨c', oc, vs, t, rfl, kp _ _ h1, h2, h3⟩ S.co S.gen S.kind (S.bind _ _ _ _ _ _) S.lx S.nc (I.nolimit.keeps kp) fun L h₁ hns k1 => ?_
      have hus : us ≠ [] := fun e => by
        subst e
        cases r
        exact hr rfl
      have hlen := r.length
      refine cut2_eval (s := { s with heap := h, toks := tk }) (items := (Value.int i t0 :: Value.str z t1 :: us).toArray) S.kind S.lx hns (by simp) hd (ht.keeps kp) rfl hus ?_ (.int _ _) (.str _ _) k1
      have hz' : rest.length + 2 ≤ sizeLine := hz
      show (Value.int i t0 :: Value.str z t1 :: us).toArray.size ≤ sizeLine
      simp only [List.size_toArray, List.length_cons]
      omega
/-- x[0] * (y // x[1]), y captured: it stands in slot iw -/
def KeyP (K : PySem.W.Frag) (iw : Nat) (σ : L2.St) (H : Hp) (x : V) (k : PyData) : Prop := ∃ (a : Addr) (n d wh : Int) (rest : List V), x = .ref a ∧ SqT K H a (.int n :: .int d :: rest) ∧ σ[iw]? = some (some (.int wh)) ∧ CDivW wh d ∧ CMulW n (wh / d) ∧ k = .int (n * (wh / d))
theorem body_part {X : Cx} {q : Str} {params : Arguments} {scope : Scope} {x y : Str} {iw : Nat} {p1 p2 p3 p4 p5 p6 p7 p8 p9 : Pos} {k1 k2 : Nat} (S : Lam1 q params scope x) (hd : (x == ("__debug__" : Str)) = false)
    (hN : X.N[iw]? = some y) (hy : scope.names.lookup y = some .free) (hX : X.env.scope.names.lookup y = some .cell ∨ X.env.scope.names.lookup y = some .free) (hdy : (y == ("__debug__" : Str)) = false) (hcd : (y == ("__classdict__" : Str)) = false) :
    BodyRun X q params (.BinOp (.Subscript (.Name x p1) (.Constant (.int 0) k1 p2) p3) .Mult (.BinOp (.Name y p4) .FloorDiv (.Subscript (.Name x p5) (.Constant (.int 1) k2 p6) p7) p8) p9) scope (KeyP X.K iw) := by
  intro pins s σ H z v k f c' A h tk I rv hk hf hc hdp kp
  obtain ⟨a, n, d, wh, rest, rfl, hS, hσ, hdv, hml, rfl⟩ := hk
  cases (show v = Value.ref a from rv)
  obtain ⟨its, r, ht, hz⟩ := I.tuple hS
  cases r with
  | cons r0 r =>
    cases r with
    | cons r1 r =>
      rename_i us
      obtain ⟨t0, rfl⟩ := r0
      obtain ⟨t1, rfl⟩ := r1
      obtain ⟨pm, ctv, ho⟩ := lamHO_at I.hok hf
      obtain ⟨⟨oc, vs, t, h1, h2, h3⟩, _, _⟩ := I.hok c' _ hc
      -- the captured name's cell
      have hvis : Vis X.env.scope y := hX.elim (fun k => .inr (.inl k)) (fun k => .inr (.inr k))
      obtain ⟨m, hn, hl⟩ := I.loc
      obtain ⟨w', rw', lk⟩ := hl iw y (.int wh) hN hσ hvis
      obtain ⟨t2, rfl⟩ := rw'
      have hcell : ∃ c, (cloFrom X.env.cells scope.names []).lookup y = some c ∧ h.IsCell c (some (.int wh t2)) := by
        have hm : (y, NameKind.free) ∈ scope.names := PySem.mem_of_lookup hy
        obtain ⟨c2, h2⟩ := mem_lookup (cloFrom_has (cells := X.env.cells) (acc := []) hm)
        have hh : ∃ c1, X.env.cells.lookup y = some c1 := I.ok.has y hX
        obtain ⟨c1, e1⟩ := hh
        have e2 : c2 = c1 := by
          rcases cloFrom_mem (PySem.mem_of_lookup h2) with hm | ⟨g1, g2⟩
          · cases hm
          · have g2' : c2 = (X.env.cells.lookup y).getD 0 := g2
            rw [g2', e1]
            rfl
        refine ⟨c2, h2, ?_⟩
        rcases lk with ⟨k', _⟩ | ⟨_, c3, e', q⟩
        · have k' : X.env.scope.names.lookup y = some .local := k'
          rcases hX with z | z <;> rw [z] at k' <;> cases k'
        · rw [e1] at e'
          cases e'
          rw [e2]
          obtain ⟨o, ho, hd⟩ := q
          exact ⟨o, kp _ _ ho, hd⟩
      obtain ⟨c, hc1, hc2⟩ := hcell
      refine lam_call1 (x := x) hdp (kp _ _ ho) ⟨c', oc, vs, t, rfl, kp _ _ h1, h2, h3⟩ S.co S.gen S.kind (S.bind _ _ _ _ _ _) S.lx S.nc (I.nolimit.keeps kp) fun L h₁ hns k3 => ?_
      have hlen := r.length
      obtain ⟨o, ho2, hd2⟩ := hc2
      refine part_eval (s := { s with heap := h, toks := tk }) (items := (Value.int n t0 :: Value.int d t1 :: us).toArray) (t2 := t2) S.kind S.lx hns (by simp) hd hy hc1 ⟨o, k3 _ _ ho2, hd2⟩ hdy hcd ((ht.keeps kp).keeps k3) rfl ?_ hdv hml k3
      have hz' : rest.length + 2 ≤ sizeLine := hz
      show (Value.int n t0 :: Value.int d t1 :: us).toArray.size ≤ sizeLine
      simp only [List.size_toArray, List.length_cons]
      omega
/-! ### the town's side -/
section
variable {K : PySem.W.Frag} {cls : Nat → Addr} {a p : Addr} {F0 H0 F H : Hp} {L : Nat → Option Addr} {s : S Town} {σ : L2.St}
theorem TabJ.of {T : List (Addr × Str)} (h : TabJ T F H) {P : Addr} {q : Str} (hm : (P, q) ∈ T) : ∃ ps : Array Value, H P = some (.tbl ps) ∧ TriplesOk ps.toList ∧ ∀ (pos : Pos) (cv : Value), codeAmong pos ps.toList = some cv → ∃ c, cv = .ref c ∧ F c = some (CodeO c q) := h _ hm
/-- a table has grown by a new code object -/
theorem Good.table {q : Str} {P c' : Addr} {ps ps' : Array Value} (g : Good (CT K cls a p) F0 H0 L s σ F H) (hm : (P, q) ∈ tabs cls) (hu : ∀ r ∈ tabs cls, r.1 = P → r.2 = q) (hP : H P = some (.tbl ps)) (hc : H c' = none) (ht : TriplesOk ps'.toList)
    (ha : ∀ (pos : Pos) (cv : Value), codeAmong pos ps'.toList = some cv → codeAmong pos ps.toList = some cv ∨ cv = .ref c') : Good (CT K cls a p) F0 H0 L s σ (upd F c' (CodeO c' q)) (upd (upd H P (.tbl ps')) c' (CodeO c' q)) := by
  have Pfp : P ∈ (CT K cls a p).fp := List.mem_cons_of_mem _ (List.mem_map.mpr ⟨_, hm, rfl⟩)
  have FP : F P = none := g.fpF P Pfp
  have nPc : P ≠ c' := ne_of_none hP hc
  have cF : F c' = none := g.sub.nn hc
  have c0 : H0 c' = none := (g.fresh hc).2.1
  have cfp : c' ∉ (CT K cls a p).fp := fun z => g.fpH _ z hc
  have e := Same.updN (o := CodeO c' q) cF
  have at_ : ∀ b o, H b = some o → b ≠ P → upd (upd H P (.tbl ps')) c' (CodeO c' q) b = some o := fun b o h n => by
    rw [upd_ne (ne_of_none h hc), upd_ne n]
    exact h
  have nP0 : ∀ b, H0 b = none → b ≠ P := fun b h z => g.fp0 P Pfp (z ▸ h)
  have nPF : ∀ b o, F b = some o → b ≠ P := fun b o h z => by rw [z, FP] at h; cases h
  have j := g.j
  refine { len := g.len, sub := ?_, ext0 := g.ext0.trans e, base := ?_, newF := ?_, fp0 := g.fp0, fpF := ?_, fpH := ?_, lH := g.lH, slots := ?_, sep := g.sep, j := ?_ }
  · intro b o h
    by_cases hb : b = c'
    · subst hb
      rw [upd_same] at h ⊢
      exact .inl h
    · rw [upd_ne hb] at h
      rcases g.sub b o h with z | ⟨k, ob, z⟩
      · exact .inl (at_ b _ z (nPF b o h))
      · exact .inr ⟨k, ob, at_ b _ z (nPF b o h)⟩
  · intro b o h z
    exact at_ b o (g.base b o h z) fun y => z (y ▸ Pfp)
  · intro b o h
    by_cases hb : b = c'
    · subst hb; exact .inr (.inl c0)
    · rw [upd_ne hb] at h; exact g.newF b o h
  · intro b z
    rw [upd_ne (fun y : b = c' => cfp (y ▸ z))]
    exact g.fpF b z
  · intro b z
    rw [upd_ne (fun y : b = c' => cfp (y ▸ z))]
    by_cases hb : b = P
    · rw [hb, upd_same]; exact fun z => nomatch z
    · rw [upd_ne hb]; exact g.fpH b z
  · intro i x hx
    have k := g.slots i x hx
    have fr : ∀ r o, F r = none → H r = some o → upd F c' (CodeO c' q) r = none := fun r o h1 h2 => by
      rw [upd_ne (ne_of_none h2 hc)]; exact h1
    cases x with
    | un => trivial
    | fz d =>
      obtain ⟨v, h1, h2⟩ := k
      exact ⟨v, h1, h2.mono e⟩
    | ol xs =>
      obtain ⟨r, vs, h1, h2, h3, h4, h5⟩ := k
      exact ⟨r, vs, h1, fr r _ h2 h4, h3, at_ _ _ h4 (nP0 r h3), h5.mono e⟩
    | od xs =>
      obtain ⟨r, vs, h1, h2, h3, h4, h5⟩ := k
      exact ⟨r, vs, h1, fr r _ h2 h4, h3, at_ _ _ h4 (nP0 r h3), h5.mono e⟩
    | pt n => exact k
    | bw xs =>
      obtain ⟨r, vs, h1, h2, h3, h4, h5⟩ := k
      exact ⟨r, vs, h1, h2, h3, h4, h5.mono e⟩
  · obtain ⟨⟨j1, j2, j3⟩, jT⟩ := j
    refine ⟨⟨Same.seq e j1, at_ _ _ j2 fun z => ?_, j3⟩, fun r hr => ?_⟩
    · rw [z, hP] at j2; cases j2
    · by_cases hb : r.1 = P
      · rw [hb, hu r hr hb]
        refine ⟨ps', by rw [upd_ne nPc, upd_same], ht, fun pos cv h => ?_⟩
        rcases ha pos cv h with z | z
        · obtain ⟨qs, g1, g2, g3⟩ := jT r hr
          rw [hb, hP] at g1
          cases g1
          obtain ⟨c0, e1, e2⟩ := g3 pos cv z
          rw [hu r hr hb] at e2
          exact ⟨c0, e1, e _ _ e2⟩
        · exact ⟨c', z, upd_same⟩
      · obtain ⟨qs, g1, g2, g3⟩ := jT r hr
        refine ⟨qs, at_ _ _ g1 hb, g2, fun pos cv h => ?_⟩
        obtain ⟨c0, e1, e2⟩ := g3 pos cv h
        exact ⟨c0, e1, e _ _ e2⟩
end
end Pm

set_option Elab.async false
set_option linter.all false
set_option maxRecDepth 100000
/-! sorted(list, key=lambda ..) in the town; defs that make a lambda; town defs called with keywords. -/
namespace Pm
open PySem PySem.Spec PyProof.Rows L2 LamX RZ
def keysD (kf : D → Option PyData) : List D → Option (List (D × PyData))
  | [] => some []
  | d :: r => match kf d, keysD kf r with
    | some k, some ks => some ((d, k) :: ks)
    | _, _ => none
def sortD (kf : D → Option PyData) (ds : List D) : Option (List D) := if ds.length ≤ 1000000 then (keysD kf ds).map fun bs => (bs.mergeSort (PySem.W.dataLe false Prod.snd)).map Prod.fst else none
def mSortK {T : Type} (kf : S T → D → Option PyData) (f : M T D) : M T Slot := mBind f fun d s => match d with
  | .list ds => (match sortD (kf s) ds with
    | some r => .ok (.ol r) s
    | none => .stuck)
  | _ => .stuck
def key2D : D → Option PyData
  | .tuple (.int i :: .str z :: _ :: _) => some (.tuple [.int i, .str z])
  | _ => none
def keyPD (wh : Int) : D → Option PyData
  | .tuple (.int n :: .int d :: _) => if divOk d && mulOk n (wh / d) then some (.int (n * (wh / d))) else none
  | _ => none
def keyF2 {T : Type} (_ : S T) : D → Option PyData := key2D
def keyFP {T : Type} (iw : Nat) (s : S T) : D → Option PyData := match s.env[iw]? with
  | some (.fz (.int wh)) => keyPD wh
  | _ => fun _ => none
/-- keys of one kind: they can be sorted by -/
def KindK (kc : PyData → Prop) : Prop := (∀ a b, kc a → kc b → PySem.W.alike a b = true) ∧ (∀ ks : List PyData, (∀ k ∈ ks, kc k) → PySem.W.Sortable ks) ∧ ∀ k, kc k → k.depth ≤ 30
def kc2 (k : PyData) : Prop := ∃ (i : Int) (z : Str), k = .tuple [.int i, .str z]
def kcI (k : PyData) : Prop := ∃ i : Int, k = .int i
theorem kind2 : KindK kc2 := by
  refine ⟨?_, ?_, ?_⟩
  · rintro _ _ ⟨i, z, rfl⟩ ⟨j, y, rfl⟩
    simp only [PySem.W.alike, PySem.W.alikeAll, Bool.and_self]
  · intro ks h
    refine .inl fun d hd => ?_
    obtain ⟨i, z, rfl⟩ := h d hd
    exact ⟨_, _, rfl⟩
  · rintro _ ⟨i, z, rfl⟩
    simp [PyData.depth, PyData.depthAll]
theorem kindI : KindK kcI := by
  refine ⟨?_, ?_, ?_⟩
  · rintro _ _ ⟨i, rfl⟩ ⟨j, rfl⟩
    simp only [PySem.W.alike]
  · intro ks h
    refine .inr fun d hd => ?_
    obtain ⟨i, rfl⟩ := h d hd
    exact ⟨fun e => (nomatch e), fun xs e => nomatch e⟩
  · rintro _ ⟨i, rfl⟩
    simp [PyData.depth]
theorem keysD_spec {kf : D → Option PyData} : ∀ {ds : List D} {bs : List (D × PyData)}, keysD kf ds = some bs → bs.map Prod.fst = ds ∧ ∀ b ∈ bs, kf b.1 = some b.2
  | [], bs, h => by cases h; exact ⟨rfl, fun b hb => nomatch hb⟩
  | d :: r, bs, h => by
    unfold keysD at h
    cases q : kf d with
    | none => rw [q] at h; cases h
    | some k =>
      cases q2 : keysD kf r with
      | none => rw [q, q2] at h; cases h
      | some ks =>
        rw [q, q2] at h
        cases h
        obtain ⟨e1, e2⟩ := keysD_spec q2
        refine ⟨by rw [List.map_cons, e1], fun b hb => ?_⟩
        rcases List.mem_cons.mp hb with z | z
        · rw [z]; exact q
        · exact e2 b z
theorem RepL.maps {K : PySem.W.Frag} {F : Hp} {α : Type} {f : α → V} {g : α → D} : ∀ {zs : List α}, (∀ z ∈ zs, Rep K F (f z) (g z)) → RepL K F (zs.map f) (zs.map g)
  | [], _ => .nil
  | z :: zs, h => .cons (h z List.mem_cons_self) (RepL.maps fun y hy => h y (List.mem_cons_of_mem _ hy))
theorem RepL.triple {K : PySem.W.Frag} {F : Hp} : ∀ {xs : List V} {bs : List (D × PyData)}, RepL K F xs (bs.map Prod.fst) → ∃ zs : List (V × D × PyData), zs.map (fun z => z.1) = xs ∧ zs.map (fun z => z.2) = bs ∧ ∀ z ∈ zs, Rep K F z.1 z.2.1
  | xs, [], h => by
    cases h
    exact ⟨[], rfl, rfl, fun z hz => nomatch hz⟩
  | xs, b :: bs, h => by
    cases h with
    | cons r t =>
      rename_i v vs
      obtain ⟨zs, e1, e2, e3⟩ := RepL.triple t
      refine ⟨(v, b) :: zs, by rw [List.map_cons, e1], by rw [List.map_cons, e2], fun z hz => ?_⟩
      rcases List.mem_cons.mp hz with y | y
      · rw [y]; exact r
      · exact e3 z y
section
variable {K : PySem.W.Frag} {cls : Nat → Addr} {a p : Addr} {W : WX} {X : Cx} {P : Addr} {q : Str} {params : Arguments} {body : Expr} {scope : Scope} {te : TE} {fa : M Town D} {kf : S Town → D → Option PyData} {kc : PyData → Prop} {KeyOk : L2.St → Hp → V → PyData → Prop}
theorem se_sortL (hX : X.K = K) (hm : (P, q) ∈ tabs cls) (hu : ∀ r ∈ tabs cls, r.1 = P → r.2 = q) (hkc : KindK kc) (hkf : ∀ s d k, kf s d = some k → kc k)
    (hk : ∀ (F0 H0 : Hp) (L : Nat → Option Addr) (s : S Town) (σ : L2.St) (F H : Hp) (x : V) (d : D) (k : PyData), Good (CT K cls a p) F0 H0 L s σ F H → Rep K F x d → kf s d = some k → KeyOk σ H x k) (ha : Sv (CT K cls a p) W te fa) :
    Se (CT K cls a p) W (tSortL X te (tLm X P q params body scope) q params body scope KeyOk) (mSortK kf fa) := by
  intro F0 H0 L s σ F H Q g h
  refine ha _ _ _ _ _ _ _ _ g (po_imp (po_bind h) fun d s1 F1 H1 g1 e1 h1 v rv => ?_)
  cases rv with
  | lst hx r =>
    rename_i al xs ds
    dsimp only at h1
    cases q1 : sortD (kf s1) ds with
    | none => rw [q1] at h1; exact h1.elim
    | some out =>
      rw [q1] at h1
      unfold sortD at q1
      by_cases hlen : ds.length ≤ 1000000
      · rw [if_pos hlen] at q1
        cases q2 : keysD (kf s1) ds with
        | none => rw [q2] at q1; cases q1
        | some bs =>
          rw [q2] at q1
          cases q1
          obtain ⟨eb, hbk⟩ := keysD_spec q2
          obtain ⟨zs, z1, z2, z3⟩ := RepL.triple (bs := bs) (by rw [eb]; exact r)
          obtain ⟨ps, hP, ht, hcs⟩ := g1.j.2.of hm
          refine ⟨ps, hP, ht, fun pos cv hc => ?_, fun f c' H1' hf hc' cs => ?_⟩
          · obtain ⟨c, e1, e2⟩ := hcs pos cv hc
            refine ⟨c, e1, ?_⟩
            rcases g1.sub c _ e2 with y | ⟨⟨ks, y⟩, _⟩
            · exact y
            · cases y
          · obtain ⟨F2, g2, e2⟩ : ∃ F2, Good (CT K cls a p) F0 H0 L s1 σ F2 H1' ∧ Same F1 F2 := by
              rcases cs with rfl | ⟨hcn, ps', rfl, ht', ha'⟩
              · exact ⟨F1, g1, Same.refl _⟩
              · exact ⟨_, g1.table hm hu hP hcn ht' ha', Same.updN (g1.sub.nn hcn)⟩
            have g3 := g2.alloc (o := lamHO q params body scope (cloFrom X.env.cells scope.names []) c' f) hf
            have mz : ∀ z ∈ zs, z.2 ∈ bs := fun z hz => by rw [← z2]; exact List.mem_map.mpr ⟨z, hz, rfl⟩
            have e5 : (zs.map fun z => (z.1, z.2.2)).mergeSort (PySem.W.dataLe false Prod.snd) = (zs.mergeSort (PySem.W.dataLe false fun z => z.2.2)).map fun z => (z.1, z.2.2) :=
              (List.map_mergeSort (r := PySem.W.dataLe false fun z : V × D × PyData => z.2.2) (s := PySem.W.dataLe false (Prod.snd : V × PyData → PyData)) (f := fun z => (z.1, z.2.2)) (l := zs) (fun _ _ _ _ => rfl)).symm
            have e6 : bs.mergeSort (PySem.W.dataLe false Prod.snd) = (zs.mergeSort (PySem.W.dataLe false fun z => z.2.2)).map fun z => z.2 := by
              rw [← z2]
              exact (List.map_mergeSort (r := PySem.W.dataLe false fun z : V × D × PyData => z.2.2) (s := PySem.W.dataLe false (Prod.snd : D × PyData → PyData)) (f := fun z => z.2) (l := zs) (fun _ _ _ _ => rfl)).symm
            refine ⟨al, f, c', zs.map fun z => (z.1, z.2.2), rfl, rfl, ?_, upd_same, by rw [upd_ne (ne_of_none hc' hf)]; exact hc', fun b hb => ?_, ?_, ?_, ?_, fun b hb => ?_, fun p hp => ?_⟩
            · rw [hX, List.map_map]
              have e7 : (zs.map (Prod.fst ∘ fun z : V × D × PyData => (z.1, z.2.2))) = xs := z1
              rw [e7]
              exact SqL.of (g3.sub.lst (e2 _ _ hx))
            · obtain ⟨z, hz, rfl⟩ := List.mem_map.mp hb
              exact hk _ _ _ _ _ _ _ _ _ _ g3 ((z3 z hz).mono e2) (hbk _ (mz z hz))
            · intro d1 hd1 d2 hd2
              simp only [List.map_map, List.mem_map] at hd1 hd2
              obtain ⟨y1, hy1, rfl⟩ := hd1
              obtain ⟨y2, hy2, rfl⟩ := hd2
              exact hkc.1 _ _ (hkf _ _ _ (hbk _ (mz _ hy1))) (hkf _ _ _ (hbk _ (mz _ hy2)))
            · refine hkc.2.1 _ fun k hk => ?_
              simp only [List.map_map, List.mem_map] at hk
              obtain ⟨y1, hy1, rfl⟩ := hk
              exact hkf _ _ _ (hbk _ (mz _ hy1))
            · rw [List.length_map]
              have l1 := congrArg List.length z2
              have l2 := congrArg List.length eb
              rw [List.length_map] at l1 l2
              omega
            · obtain ⟨z, hz, rfl⟩ := List.mem_map.mp hb
              exact hkc.2.2 _ (hkf _ _ _ (hbk _ (mz z hz)))
            · rw [e5, List.map_map]
              refine h1 F2 _ (g3.alloc hp) e2 _ ⟨p, _, rfl, Tmp.fresh g3 hp, upd_same, ?_⟩
              show RepL _ F2 _ (List.map Prod.fst (bs.mergeSort (PySem.W.dataLe false Prod.snd)))
              rw [e6, List.map_map]
              refine RepL.maps fun z hz => ?_
              exact (z3 z ((List.mergeSort_perm zs _).mem_iff.mp hz)).mono e2
      · rw [if_neg hlen] at q1; cases q1
  | _ => exact h1.elim
end
/-! the two lambdas -/
section
variable {K : PySem.W.Frag} {cls : Nat → Addr} {C : Ct Town} {W : WX} {X : Cx} {k : Nat} {c P : Addr} {q : Str} {params : Arguments} {scope : Scope} {e : Expr} {te : TE} {fa : M Town D} {pos kpos lpos p : Pos}
theorem de_sort2 {x : Str} {p1 p2 p3 p4 : Pos} {kn : Nat} (qq : Cur X C W k cls K) (hC : CTs K cls C) (S : Lam1 q params scope x) (TB : TabB X.base X.mg c P) (hm : (P, q) ∈ tabs cls) (hu : ∀ r ∈ tabs cls, r.1 = P → r.2 = q) (hs : X.mg "sorted" = none) (ha : DV X C W e te fa) (hcode : X.env.code = .ref c := by rfl) (hq : X.env.qual ++ "<lambda>" = q := by rfl) (hdef : defaultsOf params X.env = ([], []) := by rfl)
    (hnf : scope.names.all (fun y => decide (y.2 ≠ .free)) = true := by rfl) (hd : (x == ("__debug__" : Str)) = false := by decide) (hg : Gl X "sorted" := by rfl)
    (hst : backTo pos (starEach [e] X.env) = (false, eval e X.env) :: backTo pos (starEach [] X.env) := by rfl) (hpl : (backTo pos (starEach [e] X.env)).any (·.1) = false := by rfl) (hes : starEach [e] X.env = (false, eval e X.env) :: starEach [] X.env := by rfl) :
    DE X C W (.Call (.Name "sorted" p) [e] [⟨some "key", .Lambda params (.Subscript (.Name x p1) (.Slice none (some (.Constant (.int 2) kn p2)) none p3) p4) scope lpos, kpos⟩] pos)
      (tSortL X te (tLm X P q params (.Subscript (.Name x p1) (.Slice none (some (.Constant (.int 2) kn p2)) none p3) p4) scope) q params (.Subscript (.Name x p1) (.Slice none (some (.Constant (.int 2) kn p2)) none p3) p4) scope (Key2 X.K)) (mSortK keyF2 fa) := by
  refine ⟨pe_sortL qq.un qq.hr.depth hs ha.pe (pe_lam TB hcode hq hdef fun y hy e => absurd e (of_decide_eq_true (List.all_eq_true.mp hnf y hy))) (body_cut2 S hd) hg hst hpl hes, ?_⟩
  obtain ⟨a, pp, rfl⟩ := hC
  refine se_sortL qq.hX hm hu kind2 (fun s d k h => ?_) (fun F0 H0 L s σ F H x d k g r h => ?_) ha.sv
  · unfold keyF2 key2D at h
    split at h
    · cases h; exact ⟨_, _, rfl⟩
    · cases h
  · unfold keyF2 key2D at h
    split at h
    · cases h
      cases r with
      | tup hx rl =>
        cases rl with
        | cons r1 rl =>
          cases rl with
          | cons r2 rl =>
            cases rl with
            | cons r3 rl =>
              cases r1
              cases r2
              exact ⟨_, _, _, _, rfl, by rw [qq.hX]; exact g.sub.tup hx, List.cons_ne_nil _ _, rfl⟩
    · cases h
end

/-! ### defs that make a lambda; town defs with keywords -/
/-- a def of the module by its code object -/
def StdL (K : PySem.W.Frag) (mg : Str → Option Value) (x : Str) (st : Stmt) (ps : List Str) (c : Addr) : Prop := ∃ (f : Addr) (oc : Value) (od : Option Addr) (kV doc pm : Value) (an : Option Addr) (ct : Value) (osl : Array (Option Value)),
  K.lookup f = some ⟨oc, od, .func (PySem.W.fnOf x x (defArgs st) (defBody st) (defScope st) .none kV doc pm an (.ref c) ct), osl⟩ ∧ PySem.W.codeIn K (.ref c) x = true ∧ PySem.W.keepIn K (.ref f) = true ∧ mg x = some (.ref f) ∧ Binds K (PySem.W.fnOf x x (defArgs st) (defBody st) (defScope st) .none kV doc pm an (.ref c) ct) ps []
section
variable {P : Program} {w : World} {K : PySem.W.Frag} {mg : Str → Option Value} {base : Heap} {cls : Nat → Addr}
theorem okDTL {x : Str} {st : Stmt} {N ps : List Str} {k : Nat} {c : Addr} {m : M Town Out} {g : List Slot → Town → Rt Town} (h : StdL K mg x st ps c) (S : FnScope N ps (defScope st)) (hg : g = fnT ps.length N.length m)
    (hbody : ∀ (f : Addr) (A : Around) (outer : List Env) (s : Shared) (H : Hp) (E : XK), Room k (A.deeper (PyProof.Rows.envOfC x (defScope st) s.heap.objs.size f (.ref c))) →
      ∃ t, PSs (cxOf (L2.CX P w) P w K mg base N x (defScope st) f (.ref c) A outer s H E) (defBody st) t ∧ ∀ C, CTs K cls C → Sb C (WofE E) t m) : DefX P w K mg base x (k + 1) ps (spX (CTs K cls) g) := by
  obtain ⟨f, oc, od, kV, doc, pm, an, ct, osl, lk, hcd, kp, hm, hb⟩ := h
  subst hg
  refine ⟨f, _, ?_, hm, kp, hb⟩
  have hpl : ps.length ≤ N.length := by
    have e := congrArg List.length S.pre
    rw [List.length_take] at e
    omega
  refine fn_of lk hcd S (fun vs H Q E h => ?_) fun A outer s H vs Q E hr h => ?_
  · obtain ⟨C, hC, F1, xs, t, u, j, fp, r, q⟩ := h
    unfold fnT at q
    by_cases hl : xs.length = ps.length ∧ xs.all argOk = true
    · rw [r.length, hl.1]
    · rw [if_neg hl] at q; exact q.elim
  · obtain ⟨t, ht, sb⟩ := hbody f A outer s H E hr
    exact ⟨t, ht, body_T hpl sb h⟩
end
structure DefXK (P : Program) (w : World) (K : PySem.W.Frag) (mg : Str → Option Value) (base : Heap) (x : Str) (k : Nat) (ps : List Str) (n : Nat) (ks : List Str) (sp : Sp) : Prop where
  ok : ∃ (f : Addr) (fd : FuncData), FnOk P w K mg base (L2.CX P w) k f fd ps sp ∧ mg x = some (.ref f) ∧ PySem.W.keepIn K (.ref f) = true ∧ KBn K fd ps n ks (fun us ws => us ++ ws) (fun vs zs => vs ++ zs)
section
variable {P : Program} {w : World} {K : PySem.W.Frag} {mg : Str → Option Value} {base : Heap} {cls : Nat → Addr}
theorem okDTK {x : Str} {st : Stmt} {N ps ks : List Str} {n k : Nat} {m : M Town Out} {g : List Slot → Town → Rt Town} (h : StdK K mg x st ps n ks) (S : FnScope N ps (defScope st)) (hg : g = fnT ps.length N.length m)
    (hbody : ∀ (f : Addr) (cdv : Value) (A : Around) (outer : List Env) (s : Shared) (H : Hp) (E : XK), Room k (A.deeper (PyProof.Rows.envOfC x (defScope st) s.heap.objs.size f cdv)) →
      ∃ t, PSs (cxOf (L2.CX P w) P w K mg base N x (defScope st) f cdv A outer s H E) (defBody st) t ∧ ∀ C, CTs K cls C → Sb C (WofE E) t m) : DefXK P w K mg base x (k + 1) ps n ks (spX (CTs K cls) g) := by
  obtain ⟨f, fd, F, hm, hb⟩ := h
  subst hg
  exact ⟨f, fd, okT F S (hbody f), hm, F.kp, hb⟩
end
/-- f(e, .., k = v, ..) of a town def: all frozen -/
def mCallTK {T : Type} (n m : Nat) (g : List Slot → T → Rt T) (fr fk : M T (List D)) : M T D := mBind fr fun ds => mBind fk fun es s => if ds.length = n ∧ es.length = m then (match g ((ds ++ es).map .fz) s.t with
  | .ok d t' => .ok d ⟨s.env, t'⟩
  | .exc c t' => .exc c ⟨s.env, t'⟩
  | .stuck => .stuck) else .stuck
theorem argsT_fz {T : Type} {C : Ct T} {F : Hp} : ∀ {vs : List V} {ds : List D}, RepL C.K F vs ds → ArgsT C F vs (ds.map .fz)
  | _, _, .nil => trivial
  | _, _, .cons r t => ⟨r, argsT_fz t⟩
section
variable {T : Type} {C : Ct T} {W : WX}
theorem sv_callTK {Cs : Ct T → Prop} (hC : Cs C) {g : List Slot → T → Rt T} {n m : Nat} {tr tk : TA} {fr fk : M T (List D)} (ha : Sa C W tr fr) (hb : Sa C W tk fk) : Sv C W (tCallNS n m (spX Cs g) (fun vs zs => vs ++ zs) (WE W) tr tk) (mCallTK n m g fr fk) := by
  intro F0 H0 L s σ F H Q gd h
  refine ha _ _ _ _ _ _ _ _ gd (po_imp (po_bind h) fun ds s1 F1 H1 g1 e1 h1 vs rv => ?_)
  refine hb _ _ _ _ _ _ _ _ g1 (po_imp (po_bind h1) fun es s2 F2 H2 g2 e2 h2 zs rz => ?_)
  by_cases hl : ds.length = n ∧ es.length = m
  · rw [if_pos hl] at h2
    refine ⟨rv.length.trans hl.1, rz.length.trans hl.2, C, hC, F2, (ds ++ es).map .fz, s2.t, g2.sub, g2.j, fun a z => ⟨g2.fpF a z, g2.fpH a z⟩, argsT_fz ((rv.mono e2).append rz), ?_⟩
    cases q : g ((ds ++ es).map .fz) s2.t with
    | ok d t' =>
      simp only [q] at h2
      exact fun v F' H' a r => h2 F' H' (g2.aftT a) a.ex v r
    | exc c t' =>
      simp only [q] at h2
      exact fun F' H' a => h2 F' H' (g2.aftT a) a.ex
    | stuck => simp only [q] at h2; exact h2.elim
  · rw [if_neg hl] at h2; exact h2.elim
end
section
variable {T : Type} {X : Cx} {C : Ct T} {W : WX} {k : Nat} {cls : Nat → Addr} {K : PySem.W.Frag} {a e : Expr} {es : List Expr} {pos p kpos : Pos} {ta : TE} {fa : M T D} {tr tk : TA} {fr fk : M T (List D)} {kws : List Keyword}
theorem dv_callTK {k' n : Nat} {x : Str} {ps ks : List Str} {Cs : Ct T → Prop} {g : List Slot → T → Rt T} (q : Cur X C W k cls K) (hC : Cs C) (F : DefXK X.prog X.w X.K X.mg X.base x k' ps n ks (spX Cs g)) (hk : k' ≤ k) (ha : DA X C W (e :: es) tr fr) (hkw : DK X C W kws tk fk) (hg : Gl X x := by rfl)
    (hall : (backToKw pos (keywordEach kws X.env)).all (·.1.isSome) = true := by rfl) (hks : (backToKw pos (keywordEach kws X.env)).filterMap (·.1) = ks := by rfl)
    (hdb : (x == ("__debug__" : Str)) = false := by decide) (he : starEach (e :: es) X.env = (false, eval e X.env) :: starEach es X.env := by rfl)
    (hpl : ((backTo pos (starEach (e :: es) X.env)).any (·.1) || (backToKw pos (keywordEach kws X.env)).any (·.1.isNone)) = false := by rfl) :
    DV X C W (.Call (.Name x p) (e :: es) kws pos) (tCallNS n ks.length (spX Cs g) (fun vs zs => vs ++ zs) (WE W) tr tk) (mCallTK n ks.length g fr fk) := by
  obtain ⟨f, fd, F1, m, kp, b⟩ := F.ok
  refine ⟨?_, sv_callTK hC ha.sv hkw.sv⟩
  exact pe_callNS F1 (q.hr.mono hk) hg m kp b (fun σ => passAt q.tk σ) ha.pe hkw.pe hall hks hdb he hpl
end
/-- the end with a table: the def `maker` makes the lambda -/
theorem walk_ofMk {l : PySem.W.OpenLaw} {n k : Nat} {q : Program} {loose : List Str} {XP : (Str → Option Value) → Heap → Prop} {YP : World → Heap → Prop} {d : DefRec} {K : Params → PySem.W.Frag} {CX : World → CXT} {x maker : Str} {dm : DefRec} {nm : Str}
    (hn : l.most = some n) (hn2 : n ≤ sizeLine) (hdf : d.params.defaults = []) (hr : Room k callerA) (hrec : (recsOf q).find? (fun e => e.name == maker) = some dm) (hY : ∀ (w : World) (h : Heap), YP w h → (K w.params).In h)
    (F : ∀ (w : World) (mg : Str → Option Value) (fa : Addr) (h : Heap), (K w.params).In h → h.Ns mainGlobals mg → mg d.name = some (.ref fa) →
      ∃ (fd : FuncData) (c P : Addr), PySem.W.tabIn (K w.params) maker = some (c, P) ∧ (K w.params).lookup P = none ∧ (∀ (s : Shared) (u : Value), BindsTo s fd ⟨[u], []⟩ [(x, u)]) ∧
        ∀ base : Heap, (K w.params).In base → base.Ns mainGlobals mg → TabB base mg c P → FnOk l.prog w (K w.params) mg base (CX w) k fa fd [x] (spLawT (K w.params) [(P, nm)]))
    (hn3 : n ≤ 63) (hCX : ∀ (w : World) (H : Hp) (s : Shared) (e : Value) (s' : Shared), CX w [] H s (fun _ _ _ => False) e s' → False) :
    PySem.W.WalkO q loose XP YP l.row.toRowW d [] (fun f vs => PySem.call f vs) := by
  refine Att.attach_callB hn hdf fun w s₀ s₁ mg mb fa o pm cd doc a vs ns G Y ho hd hcd hmg hobj hints hlen hbits hg => ?_
  have KX := hY w _ Y
  obtain ⟨fd, c, P, ht, hKP, hb, hF⟩ := F w mg fa _ KX G.T.g hmg
  obtain ⟨hC, hP⟩ := PySem.W.tab_of G.T KX hrec ht
  refine law_callTs (cs := [(c, P)]) KX G.T.g G.T.b G.T.builtins G.T.nolimit hg (fun p hp => ?_) (fun p hp => ?_) (fun p hp => ?_) G.T.bmain hobj hints (Nat.le_trans hlen hn2) hr (fun base h1 h2 h3 => hF base h1 h2 (h3 (c, P) List.mem_cons_self)) hb (fun H hH hS => ⟨a, ns, rfl, hS, Nat.le_trans hlen hn3, fun q hq => ?_, fun _ => rfl⟩) fun H e s' => hCX w H s₁ e s'
  · rw [List.mem_singleton.mp hp]; exact hP
  · rw [List.mem_singleton.mp hp]; exact hKP
  · rw [List.mem_singleton.mp hp]; exact hC
  · rw [List.mem_singleton.mp hq]; exact hH (c, P) List.mem_cons_self
end Pm

set_option Elab.async false
set_option linter.all false
set_option maxRecDepth 100000
/-! An own object within an own list or dict: while it is open, both belong to the town. -/
namespace Pm
open PySem L2 RZ
section
variable {T : Type} {U : Type}
/-- what stands of the outer object at p and of the inner one at q -/
structure Hole (U : Type) where
  R : Addr → U → Hp → HO → HO → Prop
  mono : ∀ q u F F' op oq, R q u F op oq → Same F F' → R q u F' op oq
def CH (K : PySem.W.Frag) (C : Ct T) (h : Hole U) (p q : Addr) : Ct (T × U) where
  ptr := fun n => if n = 9 then p else C.ptr n
  fp := p :: q :: C.fp
  J := fun t F H => C.J t.1 F H ∧ (p ≠ q ∧ p ∉ C.fp ∧ q ∉ C.fp) ∧ ∃ op oq, H p = some op ∧ H q = some oq ∧ h.R q t.2 F op oq
  stab := fun t F H F' H' j e k => by
    obtain ⟨j1, j2, op, oq, j3, j4, j5⟩ := j
    exact ⟨C.stab _ _ _ _ _ j1 e fun a z => k a (List.mem_cons_of_mem _ (List.mem_cons_of_mem _ z)), j2, op, oq, by rw [k p List.mem_cons_self]; exact j3, by rw [k q (List.mem_cons_of_mem _ List.mem_cons_self)]; exact j4, h.mono _ _ _ _ _ _ j5 e⟩
  loose := C.loose
  K := K
  cls := C.cls
def no9 (env : List Slot) : Bool := env.all fun x => match x with
  | .pt n => decide (n ≠ 9)
  | _ => true
theorem no9_at {env : List Slot} {i n : Nat} (h : no9 env = true) (k : env[i]? = some (.pt n)) : n ≠ 9 := by
  have z := List.all_eq_true.mp h _ (List.mem_of_getElem? k)
  exact of_decide_eq_true z
variable {C : Ct T} {h : Hole U} {F0 H0 F H : Hp} {L : Nat → Option Addr} {s : S T} {σ : L2.St}
/-- the object of slot i is opened, with a new object at q in it -/
theorem Good.openH {K : PySem.W.Frag} (hK : C.K = K) (g : Good C F0 H0 L s σ F H) (h9 : no9 s.env = true) {i : Nat} {x : Slot} {p q : Addr} {op oq : HO} {u : U} (hx : s.env[i]? = some x) (ox : x.owned = true) (hp : σ[i]? = some (some (.ref p))) (pF : F p = none) (p0 : H0 p = none) (hn : H p ≠ none) (t : Tmp C H0 s σ F H q) (hR : h.R q u F op oq) :
    Good (CH K C h p q) F0 (upd (upd H0 q oq) p op) L ⟨s.env.set i (.pt 9), (s.t, u)⟩ σ F (upd (upd H q oq) p op) := by
  subst hK
  have pq : p ≠ q := fun e => t.no i x hx ox (by rw [hp, e])
  have F0q : F0 q = none := Same.free g.ext0 t.f
  have F0p : F0 p = none := Same.free g.ext0 pF
  have up0 : ∀ a, upd (upd H0 q oq) p op a = none → H0 a = none ∧ a ≠ p ∧ a ≠ q := fun a e => by
    by_cases h1 : a = p
    · subst h1; rw [upd_same] at e; cases e
    · rw [upd_ne h1] at e
      by_cases h2 : a = q
      · subst h2; rw [upd_same] at e; cases e
      · rw [upd_ne h2] at e; exact ⟨e, h1, h2⟩
  have at_ : ∀ (M : Hp) a, a ≠ p → a ≠ q → upd (upd M q oq) p op a = M a := fun M a h1 h2 => by rw [upd_ne h1, upd_ne h2]
  have nF : ∀ a o, F a = some o → a ≠ p ∧ a ≠ q := fun a o e => ⟨ne_of_none e pF, ne_of_none e t.f⟩
  have n0 : ∀ a, H0 a ≠ none → a ≠ p ∧ a ≠ q := fun a e => ⟨fun z => e (z ▸ p0), fun z => e (z ▸ t.h0)⟩
  refine { len := by simpa using g.len, sub := ?_, ext0 := g.ext0, base := ?_, newF := ?_, fp0 := ?_, fpF := ?_, fpH := ?_, lH := ?_, slots := ?_, sep := ?_, j := ?_ }
  · intro a o e
    obtain ⟨h1, h2⟩ := nF a o e
    rw [at_ H a h1 h2]
    exact g.sub a o e
  · intro a o e z
    have h1 : a ≠ p := fun y => z (y ▸ List.mem_cons_self)
    have h2 : a ≠ q := fun y => z (y ▸ List.mem_cons_of_mem _ List.mem_cons_self)
    rw [at_ H0 a h1 h2] at e
    rw [at_ H a h1 h2]
    exact g.base a o e fun y => z (List.mem_cons_of_mem _ (List.mem_cons_of_mem _ y))
  · intro a o e
    obtain ⟨h1, h2⟩ := nF a o e
    rw [at_ H0 a h1 h2]
    exact g.newF a o e
  · intro a z e
    obtain ⟨e0, h1, h2⟩ := up0 a e
    rcases List.mem_cons.mp z with y | y
    · exact h1 y
    · rcases List.mem_cons.mp y with y | y
      · exact h2 y
      · exact g.fp0 a y e0
  · intro a z
    rcases List.mem_cons.mp z with y | y
    · rw [y]; exact pF
    · rcases List.mem_cons.mp y with y | y
      · rw [y]; exact t.f
      · exact g.fpF a y
  · intro a z e
    by_cases h1 : a = p
    · rw [h1, upd_same] at e; cases e
    · rw [upd_ne h1] at e
      by_cases h2 : a = q
      · rw [h2, upd_same] at e; cases e
      · rw [upd_ne h2] at e
        rcases List.mem_cons.mp z with y | y
        · exact h1 y
        · rcases List.mem_cons.mp y with y | y
          · exact h2 y
          · exact g.fpH a y e
  · intro j a e z
    exact g.lH j a e (up0 a z).1
  · intro j y hy
    by_cases e : i = j
    · subst e
      have hl : i < s.env.length := (List.getElem?_eq_some_iff.mp hx).1
      rw [List.getElem?_set_self hl] at hy
      cases hy
      show σ[i]? = some (some (.ref (if 9 = 9 then p else C.ptr 9)))
      rw [if_pos rfl]; exact hp
    · rw [List.getElem?_set_ne e] at hy
      have k := g.slots j y hy
      cases y with
      | un => trivial
      | fz d => exact k
      | pt n =>
        have n9 := no9_at h9 hy
        show σ[j]? = some (some (.ref (if n = 9 then p else C.ptr n)))
        rw [if_neg n9]; exact k
      | ol xs =>
        obtain ⟨r, vs, h1, h2, h3, h4, h5⟩ := k
        have rp : r ≠ p := fun z => g.sep i j x (.ol xs) p e hx hy ox rfl hp (by rw [h1, z])
        have rq : r ≠ q := fun z => t.no j _ hy rfl (by rw [h1, z])
        exact ⟨r, vs, h1, h2, by rw [at_ H0 r rp rq]; exact h3, by rw [at_ H r rp rq]; exact h4, h5⟩
      | od xs =>
        obtain ⟨r, vs, h1, h2, h3, h4, h5⟩ := k
        have rp : r ≠ p := fun z => g.sep i j x (.od xs) p e hx hy ox rfl hp (by rw [h1, z])
        have rq : r ≠ q := fun z => t.no j _ hy rfl (by rw [h1, z])
        exact ⟨r, vs, h1, h2, by rw [at_ H0 r rp rq]; exact h3, by rw [at_ H r rp rq]; exact h4, h5⟩
      | bw xs =>
        obtain ⟨r, vs, h1, h2, h3, h4, h5⟩ := k
        obtain ⟨rp, rq⟩ := n0 r (by rw [h4]; exact fun z => nomatch z)
        exact ⟨r, vs, h1, h2, fun z => by
          rcases List.mem_cons.mp z with y | y
          · exact rp y
          · rcases List.mem_cons.mp y with y | y
            · exact rq y
            · exact h3 y, by rw [at_ H0 r rp rq]; exact h4, h5⟩
  · intro a b y z r hab ha hb oy oz
    have hl : i < s.env.length := (List.getElem?_eq_some_iff.mp hx).1
    by_cases ia : i = a
    · subst ia
      rw [List.getElem?_set_self hl] at ha
      cases ha; cases oy
    · by_cases ib : i = b
      · subst ib
        rw [List.getElem?_set_self hl] at hb
        cases hb; cases oz
      · rw [List.getElem?_set_ne ia] at ha
        rw [List.getElem?_set_ne ib] at hb
        exact g.sep a b y z r hab ha hb oy oz
  · have nfp : p ∉ C.fp := fun z => g.fp0 p z p0
    have nfq : q ∉ C.fp := fun z => g.fp0 q z t.h0
    exact ⟨C.stab s.t F H F _ g.j (Same.refl F) fun a z => at_ H a (fun y => nfp (y ▸ z)) fun y => nfq (y ▸ z), ⟨pq, nfp, nfq⟩, op, oq, upd_same, by rw [upd_ne pq.symm, upd_same], hR⟩
/-- it is closed: the inner object is frozen -/
theorem Good.closeH {K : PySem.W.Frag} (hK : C.K = K) {s0 : S T} {σ0 : L2.St} {Fs Hs : Hp} (g0 : Good C F0 H0 L s0 σ0 Fs Hs) {p q : Addr} {op oq : HO} (p0 : H0 p = none) (q0 : H0 q = none) {s' : S (T × U)} {σ' : L2.St} {F' H' : Hp} (g : Good (CH K C h p q) F0 (upd (upd H0 q oq) p op) L s' σ' F' H') {i : Nat} (hi : s'.env[i]? = some (.pt 9)) (h9 : no9 (s'.env.set i .un) = true) {x : Slot} {oq' : HO} (hq : H' q = some oq')
    (hx : SlotOk C H0 L i (upd F' q oq') H' x (some (some (.ref p)))) (ox : x.owned = true) : Good C F0 H0 L ⟨s'.env.set i x, s'.t.1⟩ σ' (upd F' q oq') H' ∧ Same F' (upd F' q oq') := by
  subst hK
  have qf : q ∈ (CH C.K C h p q).fp := List.mem_cons_of_mem _ List.mem_cons_self
  have pf : p ∈ (CH C.K C h p q).fp := List.mem_cons_self
  have Fq : F' q = none := g.fpF q qf
  have Fp : F' p = none := g.fpF p pf
  obtain ⟨j1, ⟨pq, _, _⟩, _⟩ := g.j
  have e := Same.updN (o := oq') Fq
  have at_ : ∀ (M : Hp) a, a ≠ p → a ≠ q → upd (upd M q oq) p op a = M a := fun M a h1 h2 => by rw [upd_ne h1, upd_ne h2]
  have up0 : ∀ a, upd (upd H0 q oq) p op a = none → H0 a = none ∧ a ≠ p ∧ a ≠ q := fun a e => by
    by_cases h1 : a = p
    · subst h1; rw [upd_same] at e; cases e
    · rw [upd_ne h1] at e
      by_cases h2 : a = q
      · subst h2; rw [upd_same] at e; cases e
      · rw [upd_ne h2] at e; exact ⟨e, h1, h2⟩
  have n0 : ∀ a, H0 a ≠ none → a ≠ p ∧ a ≠ q := fun a e => ⟨fun z => e (z ▸ p0), fun z => e (z ▸ q0)⟩
  have nfp : p ∉ C.fp := fun z => g0.fp0 p z p0
  have nfq : q ∉ C.fp := fun z => g0.fp0 q z q0
  have hσ : σ'[i]? = some (some (.ref p)) := by
    have k := g.slots i _ hi
    have k' : σ'[i]? = some (some (.ref (if 9 = 9 then p else C.ptr 9))) := k
    rw [if_pos rfl] at k'
    exact k'
  have hlt : i < s'.env.length := (List.getElem?_eq_some_iff.mp hi).1
  have other : ∀ j y r, i ≠ j → s'.env[j]? = some y → y.owned = true → σ'[j]? = some (some (.ref r)) → r ≠ p := fun j y r ij hy oy hs z => by
    have k := g.slots j y hy
    cases y with
    | ol xs =>
      obtain ⟨r', vs, h1, h2, h3, h4, h5⟩ := k
      rw [hs] at h1; cases h1
      exact (up0 r h3).2.1 z
    | od xs =>
      obtain ⟨r', vs, h1, h2, h3, h4, h5⟩ := k
      rw [hs] at h1; cases h1
      exact (up0 r h3).2.1 z
    | _ => cases oy
  refine ⟨?_, e⟩
  refine { len := by simpa using g.len, sub := ?_, ext0 := g.ext0.trans e, base := ?_, newF := ?_, fp0 := g0.fp0, fpF := ?_, fpH := ?_, lH := g0.lH, slots := ?_, sep := ?_, j := ?_ }
  · intro a o z
    by_cases h1 : a = q
    · subst h1; rw [upd_same] at z; cases z; exact .inl hq
    · rw [upd_ne h1] at z; exact g.sub a o z
  · intro a o z y
    obtain ⟨h1, h2⟩ := n0 a (by rw [z]; exact fun z => nomatch z)
    refine g.base a o (by rw [at_ H0 a h1 h2]; exact z) fun w => ?_
    rcases List.mem_cons.mp w with w | w
    · exact h1 w
    · rcases List.mem_cons.mp w with w | w
      · exact h2 w
      · exact y w
  · intro a o z
    by_cases h1 : a = q
    · subst h1; exact .inr (.inl q0)
    · rw [upd_ne h1] at z
      rcases g.newF a o z with w | w | w
      · exact .inl w
      · exact .inr (.inl (up0 a w).1)
      · exact .inr (.inr w)
  · intro a z
    rw [upd_ne (fun y : a = q => nfq (y ▸ z))]
    exact g.fpF a (List.mem_cons_of_mem _ (List.mem_cons_of_mem _ z))
  · intro a z
    exact g.fpH a (List.mem_cons_of_mem _ (List.mem_cons_of_mem _ z))
  · intro j y hy
    by_cases ij : i = j
    · subst ij
      rw [List.getElem?_set_self hlt] at hy
      cases hy
      rw [hσ]
      exact hx
    · rw [List.getElem?_set_ne ij] at hy
      have k := g.slots j y hy
      cases y with
      | un => trivial
      | fz d =>
        obtain ⟨v, h1, h2⟩ := k
        exact ⟨v, h1, h2.mono e⟩
      | pt n =>
        have n9 : n ≠ 9 := no9_at (i := j) h9 (by rw [List.getElem?_set_ne ij]; exact hy)
        have k' : σ'[j]? = some (some (.ref (if n = 9 then p else C.ptr n))) := k
        rw [if_neg n9] at k'
        exact k'
      | ol xs =>
        obtain ⟨r, vs, h1, h2, h3, h4, h5⟩ := k
        obtain ⟨h30, h31, h32⟩ := up0 r h3
        exact ⟨r, vs, h1, by rw [upd_ne h32]; exact h2, h30, h4, h5.mono e⟩
      | od xs =>
        obtain ⟨r, vs, h1, h2, h3, h4, h5⟩ := k
        obtain ⟨h30, h31, h32⟩ := up0 r h3
        exact ⟨r, vs, h1, by rw [upd_ne h32]; exact h2, h30, h4, h5.mono e⟩
      | bw xs =>
        obtain ⟨r, vs, h1, h2, h3, h4, h5⟩ := k
        have rp : r ≠ p := fun z => h3 (z ▸ pf)
        have rq : r ≠ q := fun z => h3 (z ▸ qf)
        exact ⟨r, vs, h1, h2, fun z => h3 (List.mem_cons_of_mem _ (List.mem_cons_of_mem _ z)), by rw [at_ H0 r rp rq] at h4; exact h4, h5.mono e⟩
  · intro a b y z r hab ha hb oy oz ea eb
    by_cases ia : i = a
    · subst ia
      have ib : i ≠ b := hab
      rw [List.getElem?_set_ne ib] at hb
      rw [hσ] at ea; cases ea
      exact other b z p ib hb oz eb rfl
    · rw [List.getElem?_set_ne ia] at ha
      by_cases ib : i = b
      · subst ib
        rw [hσ] at eb; cases eb
        exact other a y p ia ha oy ea rfl
      · rw [List.getElem?_set_ne ib] at hb
        exact g.sep a b y z r hab ha hb oy oz ea eb
  · exact C.stab _ _ _ _ _ j1 e fun a _ => rfl
/-- an object of the town is written -/
theorem Good.fpSet {s' : S T} {t' : T} {q : Addr} {o : HO} (g : Good C F0 H0 L s σ F H) (hq : q ∈ C.fp) (j : C.J t' F (upd H q o)) : Good C F0 H0 L ⟨s.env, t'⟩ σ F (upd H q o) := by
  have q0 := g.fp0 q hq
  have qF := g.fpF q hq
  refine { g with sub := ?_, base := ?_, fpH := ?_, slots := ?_, j := j }
  · intro a o' e
    rw [upd_ne (ne_of_none e qF)]
    exact g.sub a o' e
  · intro a o' e z
    rw [upd_ne (fun y : a = q => z (y ▸ hq))]
    exact g.base a o' e z
  · intro a z
    by_cases h : a = q
    · rw [h, upd_same]; exact fun z => nomatch z
    · rw [upd_ne h]; exact g.fpH a z
  · intro i x hx
    have k := g.slots i x hx
    cases x with
    | un => trivial
    | fz d => exact k
    | pt n => exact k
    | bw xs => exact k
    | ol xs =>
      obtain ⟨r, vs, h1, h2, h3, h4, h5⟩ := k
      exact ⟨r, vs, h1, h2, h3, by rw [upd_ne (fun y : r = q => q0 (y ▸ h3))]; exact h4, h5⟩
    | od xs =>
      obtain ⟨r, vs, h1, h2, h3, h4, h5⟩ := k
      exact ⟨r, vs, h1, h2, h3, by rw [upd_ne (fun y : r = q => q0 (y ▸ h3))]; exact h4, h5⟩
end
end Pm

set_option Elab.async false
set_option linter.all false
set_option maxRecDepth 100000
/-! made[k] = []; .. made[k].append(x) ..; and xs[k] = dict(e); xs[k][y] = v. -/
namespace Pm
open PySem L2 RZ
/-- a list within a dict, at a key -/
abbrev UL := List (D × D) × Key × List D
def hDL (K : PySem.W.Frag) : Hole UL where
  R := fun q u F op oq => (∃ ks, op = .dK (putK ks u.2.1 (.ref q)) ∧ RepKV K F ks u.1) ∧ ∃ vs, oq = .lst vs ∧ RepL K F vs u.2.2
  mono := fun q u F F' op oq h e => by
    obtain ⟨⟨ks, h1, h2⟩, vs, h3, h4⟩ := h
    exact ⟨⟨ks, h1, h2.mono e⟩, vs, h3, h4.mono e⟩
def isP9 : Option Slot → Bool
  | some (.pt n) => decide (n = 9)
  | _ => false
theorem isP9_of {x : Option Slot} (h : isP9 x = true) : x = some (.pt 9) := by
  cases x with
  | none => cases h
  | some y =>
    cases y with
    | pt n =>
      have e : n = 9 := of_decide_eq_true h
      rw [e]
    | _ => cases h
def mOpenL {T : Type} (i k : Nat) (f : M (T × UL) Out) : M T Out := fun s => match s.env[i]?, s.env[k]? with
  | some (.od kvs), some (.fz d) => (match keyOf d with
    | some key => if (no9 s.env && decide (kvs.length < lim)) = true then (match f ⟨s.env.set i (.pt 9), (s.t, (kvs, key, []))⟩ with
      | .ok .nx s' => if (isP9 s'.env[i]? && no9 (s'.env.set i .un)) = true then .ok .nx ⟨s'.env.set i (.od (putD s'.t.2.1 s'.t.2.2.1 (.list s'.t.2.2.2))), s'.t.1⟩ else .stuck
      | _ => .stuck) else .stuck
    | none => .stuck)
  | _, _ => .stuck
def mAppO {T : Type} (i k : Nat) (fa : M (T × UL) D) : M (T × UL) D := fun s => match s.env[k]? with
  | some (.fz d) => if isP9 s.env[i]? = true ∧ keyOf d = some s.t.2.2.1 then mBind fa (fun d s1 => if s1.t.2.2.2.length < lim then .ok .none ⟨s1.env, (s1.t.1, (s1.t.2.1, s1.t.2.2.1, s1.t.2.2.2 ++ [d]))⟩ else .stuck) s else .stuck
  | _ => .stuck
section
variable {T : Type} {C : Ct T} {W : WX} {K : PySem.W.Frag}
theorem sb_openL (hK : C.K = K) {i k : Nat} {t : TS} {f : M (T × UL) Out} (hb : ∀ p q, Sb (CH K C (hDL K) p q) W t f) : Sb C W (tSeq (sDPut (tVar i) (tVar k) (tLst tNil)) t) (mOpenL i k f) := by
  intro F0 H0 L s σ F H E g h
  unfold mOpenL at h
  cases q1 : s.env[i]? with
  | none => rw [q1] at h; exact h.elim
  | some x =>
    cases q2 : s.env[k]? with
    | none => rw [q1, q2] at h; cases x <;> exact h.elim
    | some y =>
      rw [q1, q2] at h
      cases x with
      | od kvs =>
        cases y with
        | fz d =>
          dsimp only at h
          cases q3 : keyOf d with
          | none => rw [q3] at h; exact h.elim
          | some key =>
            rw [q3] at h
            dsimp only at h
            by_cases hc : (no9 s.env && decide (kvs.length < lim)) = true
            · rw [if_pos hc] at h
              rw [Bool.and_eq_true] at hc
              have hl : kvs.length < lim := of_decide_eq_true hc.2
              obtain ⟨p, ks, z1, z2, z3, z4, z5⟩ := g.slots i _ q1
              obtain ⟨v, w1, w2⟩ := g.slots k _ q2
              obtain ⟨ev, _⟩ := keyOf_rep w2 q3
              subst ev
              refine ⟨Nat.zero_le _, fun q hq => ⟨.ref p, z1, _, w1, p, _, rfl, .inl ⟨ks, key, by rw [upd_ne (ne_of_none z4 hq)]; exact z4, rfl, by rw [z5.length]; exact Nat.lt_of_lt_of_le hl (lim_ok (Nat.le_refl _)), rfl⟩, ?_⟩⟩
              have tm : Tmp C H0 s σ F H q := ⟨(g.fresh hq).1, (g.fresh hq).2.1, (Tmp.fresh g hq (o := .lst [])).no⟩
              have g2 := g.openH (h := hDL K) (u := (kvs, key, [])) (op := .dK (putK ks key (.ref q))) (oq := .lst []) hK hc.1 q1 rfl z1 z2 z3 (by rw [z4]; exact fun z => nomatch z) tm ⟨⟨ks, rfl, hK ▸ z5⟩, [], rfl, .nil⟩
              refine hb p q _ _ _ _ _ _ _ _ g2 ?_
              cases e : f ⟨s.env.set i (.pt 9), (s.t, (kvs, key, []))⟩ with
              | stuck => rw [e] at h; exact h.elim
              | exc c s' => rw [e] at h; exact h.elim
              | ok o s' =>
                rw [e] at h
                cases o with
                | nx =>
                  dsimp only at h
                  by_cases h9 : (isP9 s'.env[i]? && no9 (s'.env.set i .un)) = true
                  · rw [if_pos h9] at h
                    rw [Bool.and_eq_true] at h9
                    intro σ' F' H' g' e'
                    obtain ⟨j1, _, op, oq, j3, j4, ⟨ks', j5, j6⟩, vs', j7, j8⟩ := g'.j
                    subst j5 j7
                    have Fq : F' q = none := g'.fpF q (List.mem_cons_of_mem _ List.mem_cons_self)
                    have e9 := Same.updN (o := HO.lst vs') Fq
                    have Fp : F' p = none := g'.fpF p List.mem_cons_self
                    have pq : p ≠ q := g'.j.2.1.1
                    obtain ⟨g3, e3⟩ := Good.closeH hK g z3 tm.h0 g' (isP9_of h9.1) h9.2 j4 (x := .od (putD s'.t.2.1 s'.t.2.2.1 (.list s'.t.2.2.2))) ⟨p, _, rfl, by rw [upd_ne pq]; exact Fp, z3, j3, (by rw [hK]; exact (j6.mono e9).put (.lst upd_same (j8.mono e9)))⟩ rfl
                    exact h σ' _ H' g3 (e'.trans e3)
                  · rw [if_neg h9] at h; exact h.elim
                | _ => exact h.elim
            · rw [if_neg hc] at h; exact h.elim
        | _ => exact h.elim
      | _ => cases y <;> exact h.elim
theorem sv_appO {p q : Addr} {i k : Nat} {ta : TE} {fa : M (T × UL) D} (hK : C.K = K) (ha : Sv (CH K C (hDL K) p q) W ta fa) : Sv (CH K C (hDL K) p q) W (tBM K "list" rAppend (tOp (rIxA K) (tVar i) (tVar k)) (tCons ta tNil)) (mAppO i k fa) := by
  intro F0 H0 L s σ F H Q g h
  unfold mAppO at h
  cases q2 : s.env[k]? with
  | none => rw [q2] at h; exact h.elim
  | some y =>
      rw [q2] at h
      cases y with
      | fz d =>
        dsimp only at h
        by_cases hk0 : isP9 s.env[i]? = true ∧ keyOf d = some s.t.2.2.1
        · rw [if_pos hk0] at h
          have q1 := isP9_of hk0.1
          have hk := hk0.2
          have z1 : σ[i]? = some (some (.ref (if 9 = 9 then p else C.ptr 9))) := g.slots i _ q1
          rw [if_pos rfl] at z1
          obtain ⟨v, w1, w2⟩ := g.slots k _ q2
          obtain ⟨ev, _⟩ := keyOf_rep w2 hk
          subst ev
          obtain ⟨j1, ⟨j21, j22, j23⟩, op, oq, j3, j4, ⟨ks, j5, j6⟩, vs, j7, j8⟩ := g.j
          subst j5 j7
          refine ⟨.ref p, z1, _, w1, .inr ⟨p, .ref q, rfl, .inl ⟨_, _, .inl j3, rfl, ?_⟩, ?_⟩⟩
          · rw [valV_put, if_pos rfl]
          refine ⟨.inl ⟨rfl, _, SqL.of j4⟩, ?_⟩
          refine ha _ _ _ _ _ _ _ _ g (po_imp (po_bind h) fun d s1 F1 H1 g1 e1 k1 v rv => ?_)
          try dsimp only at k1
          by_cases hl : s1.t.2.2.2.length < lim
          · rw [if_pos hl] at k1
            obtain ⟨i1, ⟨i21, i22, i23⟩, op', oq', i3, i4, ⟨ks', i5, i6⟩, vs', i7, i8⟩ := g1.j
            subst i5 i7
            refine ⟨q, vs', v, rfl, rfl, i4, by rw [i8.length]; exact Nat.lt_of_lt_of_le hl (lim_ok (Nat.le_refl _)), ?_⟩
            refine k1 _ _ (g1.fpSet (t' := (s1.t.1, (s1.t.2.1, s1.t.2.2.1, s1.t.2.2.2 ++ [d]))) (s' := s1) (List.mem_cons_of_mem _ List.mem_cons_self) ?_) (Same.refl _) _ .non
            refine ⟨C.stab _ _ _ _ _ i1 (Same.refl _) fun a z => upd_ne fun y : a = q => i23 (y ▸ z), ⟨i21, i22, i23⟩, _, _, by rw [upd_ne i21]; exact i3, upd_same, ⟨ks', rfl, i6⟩, _, rfl, i8.snoc rv⟩
          · rw [if_neg hl] at k1; exact k1.elim
        · rw [if_neg hk0] at h; exact h.elim
      | _ => exact h.elim
/-- xs[k] = dict(e); xs[k][y] = v: a list in slot i, a place in slot k; then the new dict stands frozen in the list -/
def hLD (K : PySem.W.Frag) : Hole (Nat × List D × List (D × D)) where
  R := fun q u F op oq => (∃ vs, op = .lst (vs.set u.1 (.ref q)) ∧ u.1 < vs.length ∧ RepL K F vs u.2.1) ∧ ∃ ks, oq = .dK ks ∧ RepKV K F ks u.2.2
  mono := fun q u F F' op oq h e => by
    obtain ⟨⟨vs, h1, h2, h3⟩, ks, h4, h5⟩ := h
    exact ⟨⟨vs, h1, h2, h3.mono e⟩, ks, h4, h5.mono e⟩
def mOpenD {T : Type} (i k : Nat) (fe : M T D) (fk fv : M (T × Nat × List D × List (D × D)) D) : M T Out := mBind fe fun d s => match dictOf d, s.env[i]?, s.env[k]? with
  | some kvs, some (.ol xs), some (.fz (.int n)) => (match ixN xs.length n with
    | some m => if no9 s.env = true then (match mBind fv (fun v s3 => if ixN s3.t.2.2.1.length n = some s3.t.2.1 then mBind fk (fun y => mRet (v, y)) s3 else .stuck) ⟨s.env.set i (.pt 9), (s.t, (m, xs, kvs))⟩ with
      | .ok (v, y) s2 => (match keyOf y with
        | some key => if (decide (s2.t.2.2.2.length < lim) && isP9 s2.env[i]? && no9 (s2.env.set i .un)) = true then .ok .nx ⟨s2.env.set i (.ol (s2.t.2.2.1.set s2.t.2.1 (.dict (putD s2.t.2.2.2 key v)))), s2.t.1⟩ else .stuck
        | none => .stuck)
      | _ => .stuck) else .stuck
    | none => .stuck)
  | _, _, _ => .stuck
theorem upd_id {H : Hp} {a : Addr} {o : HO} (h : H a = some o) : upd H a o = H := funext fun b => by
  by_cases e : b = a
  · subst e; rw [upd_same, h]
  · rw [upd_ne e]
theorem atI_ix {α : Type} {xs : List α} {n : Int} {m : Nat} (h : ixN xs.length n = some m) : atI xs n = xs[m]? := by
  unfold atI
  rw [h]
  rfl
theorem sb_openD (hK : C.K = K) {i k : Nat} {te tk tv : TE} {fe : M T D} {fk fv : M (T × Nat × List D × List (D × D)) D} (he : Sv C W te fe) (hk : ∀ p q, Sv (CH K C (hLD K) p q) W tk fk) (hv : ∀ p q, Sv (CH K C (hLD K) p q) W tv fv) :
    Sb C W (tSeq (tAsg (tCB (rDictA K) (tCons te tNil)) (gSub (tVar i) (tVar k) rSetL)) (sDPut (tOp (rIxA K) (tVar i) (tVar k)) tk tv)) (mOpenD i k fe fk fv) := by
  intro F0 H0 L s σ F H E g h
  subst hK
  unfold mOpenD at h
  have h1 := pos_bind (σ := σ) h
  clear h
  have key : ∀ (d : D) (s1 : S T) (F1 H1 : Hp), Good C F0 H0 L s1 σ F1 H1 → Same F F1 → PoS C W F0 H0 L F1 E ((match dictOf d, s1.env[i]?, s1.env[k]? with
    | some kvs, some (.ol xs), some (.fz (.int n)) => (match ixN xs.length n with
      | some m => if no9 s1.env = true then (match mBind fv (fun v s3 => if ixN s3.t.2.2.1.length n = some s3.t.2.1 then mBind fk (fun y => mRet (v, y)) s3 else .stuck) ⟨s1.env.set i (.pt 9), (s1.t, (m, xs, kvs))⟩ with
        | .ok (v, y) s2 => (match keyOf y with
          | some key => if (decide (s2.t.2.2.2.length < lim) && isP9 s2.env[i]? && no9 (s2.env.set i .un)) = true then .ok .nx ⟨s2.env.set i (.ol (s2.t.2.2.1.set s2.t.2.1 (.dict (putD s2.t.2.2.2 key v)))), s2.t.1⟩ else .stuck
          | none => .stuck)
        | _ => .stuck) else .stuck
      | none => .stuck)
    | _, _, _ => .stuck) : Res T Out) → ∃ kvs, dictOf d = some kvs ∧ ∀ q ks, Tmp C H0 s1 σ F1 H1 q → H1 q = some (.dK ks) → RepKV C.K F1 ks kvs →
      gSub (tVar i) (tVar k) rSetL (.ref q) σ H1 (fun σ' H' => sDPut (tOp (rIxA C.K) (tVar i) (tVar k)) tk tv E σ' H') := by
    intro d s1 F1 H1 g1 e1 h
    cases q0 : dictOf d with
    | none => rw [q0] at h; exact h.elim
    | some kvs =>
      refine ⟨kvs, rfl, fun q ks tm hq rks => ?_⟩
      rw [q0] at h
      cases q1 : s1.env[i]? with
      | none => rw [q1] at h; exact h.elim
      | some x =>
        cases q2 : s1.env[k]? with
        | none => rw [q1, q2] at h; cases x <;> exact h.elim
        | some y =>
          rw [q1, q2] at h
          cases x with
          | ol xs =>
            cases y with
            | fz dn =>
              cases dn with
              | int n =>
                dsimp only at h
                cases q3 : ixN xs.length n with
                | none => rw [q3] at h; exact h.elim
                | some m =>
                  rw [q3] at h
                  dsimp only at h
                  by_cases h9 : no9 s1.env = true
                  · rw [if_pos h9] at h
                    obtain ⟨p, vs, z1, z2, z3, z4, z5⟩ := g1.slots i _ q1
                    obtain ⟨v, w1, w2⟩ := g1.slots k _ q2
                    cases w2
                    have hlen := z5.length
                    have hm : m < vs.length := by rw [hlen]; exact ixN_lt q3
                    refine ⟨.ref p, z1, .int n, w1, p, vs, n, m, rfl, rfl, z4, by rw [hlen]; exact q3, ?_⟩
                    have g2 := g1.openH (h := hLD C.K) (u := (m, xs, kvs)) (op := .lst (vs.set m (.ref q))) (oq := .dK ks) rfl h9 q1 rfl z1 z2 z3 (by rw [z4]; exact fun z => nomatch z) tm ⟨⟨vs, rfl, hm, z5⟩, ks, rfl, rks⟩
                    rw [upd_id hq] at g2
                    cases q4 : mBind fv (fun v s3 => if ixN s3.t.2.2.1.length n = some s3.t.2.1 then mBind fk (fun y => mRet (v, y)) s3 else .stuck) ⟨s1.env.set i (.pt 9), (s1.t, (m, xs, kvs))⟩ with
                    | stuck => rw [q4] at h; exact h.elim
                    | exc c s' => rw [q4] at h; exact h.elim
                    | ok vy s2 =>
                      rw [q4] at h
                      obtain ⟨vd, yd⟩ := vy
                      dsimp only at h
                      have hpo : Po (CH C.K C (hLD C.K) p q) W F0 (upd (upd H0 q (.dK ks)) p (.lst (vs.set m (.ref q)))) L F1 σ (fun a s' F' H' => a = (vd, yd) ∧ s' = s2) (mBind fv (fun v s3 => if ixN s3.t.2.2.1.length n = some s3.t.2.1 then mBind fk (fun y => mRet (v, y)) s3 else .stuck) ⟨s1.env.set i (.pt 9), (s1.t, (m, xs, kvs))⟩) := by
                        rw [q4]; exact fun F' H' _ _ => ⟨rfl, rfl⟩
                      refine hv p q _ _ _ _ _ _ _ _ g2 (po_imp (po_bind hpo) fun v2 s3 F3 H3 g3 e3 h3 y1 r1 => ?_)
                      -- the object
                      have zi : σ[i]? = some (some (.ref p)) := z1
                      obtain ⟨j1, ⟨j21, j22, j23⟩, op, oq, j3, j4, ⟨vs3, j5, j5b, j6⟩, ks3, j7, j8⟩ := g3.j
                      subst j5 j7
                      by_cases hix : ixN s3.t.2.2.1.length n = some s3.t.2.1
                      · rw [if_pos hix] at h3
                        have hl3 := j6.length
                        have hat : atI (vs3.set s3.t.2.1 (.ref q)) n = some (.ref q) := by
                          rw [atI_ix (by rw [List.length_set, hl3]; exact hix), List.getElem?_set_self j5b]
                        refine ⟨.ref p, zi, .int n, w1, .inl (.inl ⟨p, _, n, .ref q, rfl, rfl, SqL.of j3, hat, ?_⟩)⟩
                        refine hk p q _ _ _ _ _ _ _ _ g3 (po_imp (po_bind h3) fun y2 s4 F4 H4 g4 e4 h4 y3 r3 => ?_)
                        obtain ⟨e5, e6⟩ := po_ret h4 g4
                        cases e5
                        subst e6
                        cases q5 : keyOf yd with
                        | none => rw [q5] at h; exact h.elim
                        | some key =>
                          rw [q5] at h
                          obtain ⟨ek, _⟩ := keyOf_rep r3 q5
                          dsimp only at h
                          by_cases hc : (decide (s4.t.2.2.2.length < lim) && isP9 s4.env[i]? && no9 (s4.env.set i .un)) = true
                          · rw [if_pos hc] at h
                            rw [Bool.and_eq_true, Bool.and_eq_true] at hc
                            obtain ⟨i1, ⟨i21, i22, i23⟩, op', oq', i3, i4, ⟨vs4, i5, i5b, i6⟩, ks4, i7, i8⟩ := g4.j
                            subst i5 i7
                            refine ⟨q, _, rfl, .inl ⟨ks4, key, i4, ek, by rw [i8.length]; exact Nat.lt_of_lt_of_le (of_decide_eq_true hc.1.1) (lim_ok (Nat.le_refl _)), rfl⟩, ?_⟩
                            have g5 := g4.fpSet (t' := (s4.t.1, (s4.t.2.1, s4.t.2.2.1, putD s4.t.2.2.2 key vd))) (s' := s4) (q := q) (o := .dK (putK ks4 key y1)) (List.mem_cons_of_mem _ List.mem_cons_self) ⟨C.stab _ _ _ _ _ i1 (Same.refl _) fun a z => upd_ne fun y : a = q => i23 (y ▸ z), ⟨i21, i22, i23⟩, _, _, by rw [upd_ne i21]; exact i3, upd_same, ⟨vs4, rfl, i5b, i6⟩, _, rfl, i8.put (r1.mono e4)⟩
                            have Fq : F4 q = none := g5.fpF q (List.mem_cons_of_mem _ List.mem_cons_self)
                            have e9 := Same.updN (o := HO.dK (putK ks4 key y1)) Fq
                            have Fp : F4 p = none := g5.fpF p List.mem_cons_self
                            obtain ⟨g6, e6⟩ := Good.closeH rfl g1 z3 tm.h0 g5 (i := i) (isP9_of hc.1.2) hc.2 upd_same (x := .ol (s4.t.2.2.1.set s4.t.2.1 (.dict (putD s4.t.2.2.2 key vd)))) ⟨p, _, rfl, by rw [upd_ne i21]; exact Fp, z3, by rw [upd_ne i21]; exact i3, (i6.mono e9).set' (.dic upd_same ((i8.put (r1.mono e4)).mono e9)) _⟩ rfl
                            exact h σ _ _ g6 ((e3.trans e4).trans e6)
                          · rw [if_neg hc] at h; exact h.elim
                      · rw [if_neg hix] at h3; exact h3.elim
                  · rw [if_neg h9] at h; exact h.elim
              | _ => exact h.elim
            | _ => exact h.elim
          | _ => cases y <;> exact h.elim
  refine he _ _ _ _ _ _ _ _ g (po_imp h1 fun d s1 F1 H1 g1 e1 h2 v rv => ?_)
  obtain ⟨kvs, q0, _⟩ := key d s1 F1 H1 g1 e1 h2
  have fin : ∀ (ys : List (Key × V)), RepKV C.K F1 ys kvs → ∀ l, H1 l = none → gSub (tVar i) (tVar k) rSetL (.ref l) σ (upd H1 l (.dK ys)) (fun σ' H' => sDPut (tOp (rIxA C.K) (tVar i) (tVar k)) tk tv E σ' H') := fun ys r l hl => by
    obtain ⟨kvs', k1, k2⟩ := key d s1 F1 _ (g1.alloc (o := .dK ys) hl) e1 h2
    rw [q0] at k1
    cases k1
    exact k2 l ys (Tmp.fresh g1 hl) upd_same r
  cases rv with
  | dic hx r => cases q0; exact .inl ⟨_, _, rfl, g1.sub.dic hx, fin _ r⟩
  | lst hx r =>
    rename_i a xs ds
    have q2 : (pairsD ds).map (mergeKD []) = some kvs := q0
    cases hp : pairsD ds with
    | none => rw [hp] at q2; cases q2
    | some ps =>
      rw [hp] at q2
      cases q2
      obtain ⟨as, kvs', e, p1, p2⟩ := rep_pairs g1.sub r hp
      exact .inr ⟨a, as, kvs', rfl, SqL.of (by rw [← e]; exact g1.sub.lst hx), p1, fin _ (rep_merge .nil p2)⟩
  | _ => cases q0
end
section
variable {T : Type} {X : Cx} {C : Ct T} {W : WX} {k : Nat} {cls : Nat → Addr} {K : PySem.W.Frag} {a b e : Expr} {st : Stmt} {sts : List Stmt} {t u : TS} {f' : M T Out}
theorem CurB.hole {U : Type} {bb : Bool} (q : CurB bb X C W k cls K) (h : Hole U) (p r : Addr) : CurB bb X (CH K C h p r) W k cls K := ⟨q.un, q.hX, rfl, q.nd, q.hc, q.co⟩
theorem pss_assoc {t1 t2 t3 : TS} (h : PSs X (a' :: b' :: sts) (tSeq t1 (tSeq t2 t3))) : PSs X (a' :: b' :: sts) (tSeq (tSeq t1 t2) t3) := h
theorem dss_openL {f : M (T × UL) Out} {pos pos' lp : Pos} (q : Cur X C W k cls K) (i j : Nat) (ha : PE X a (tVar i)) (hb : PE X b (tVar j)) (h : ∀ p r, Cur X (CH K C (hDL K) p r) W k cls K → DS X (CH K C (hDL K) p r) W st t f) (hr : DSs X C W sts u f') (hs : swapsWith (.List [] lp) (some (.Subscript a b pos')) pos.line X.env = pure false := by rfl) :
    DSs X C W (.Assign [.Subscript a b pos'] (.List [] lp) pos :: st :: sts) (tSeq (tSeq (sDPut (tVar i) (tVar j) (tLst tNil)) t) u) (mSeq (mOpenL i j f) f') :=
  ⟨pss_assoc (pss_cons (ps_dput (by have := q.un; omega) ha hb (pe_lst pa_nil) hs) (pss_cons (h 0 0 (q.hole _ _ _)).pe hr.pe)), sb_seq (sb_openL q.hK fun p r => (h p r (q.hole _ _ _)).sv) hr.sv⟩
theorem dv_appO {p r : Addr} {ta : TE} {fa : M (T × UL) D} {o : Expr} {apos cpos spos : Pos} (q : Cur X (CH K C (hDL K) p r) W k cls K) (hCK : C.K = K) (i j : Nat) (ho : PE X o (tVar i)) (hb : PE X b (tVar j)) (ha : DV X (CH K C (hDL K) p r) W a ta fa) (hs0 : PlainIx b := by exact fun _ _ => rfl)
    (hbase : attributeBase (.Subscript o b spos) "append" X.env (eval (.Subscript o b spos) X.env) = eval (.Subscript o b spos) X.env := by rfl)
    (hfew : ((backTo cpos (starEach [a] X.env)).all (fun x => !x.1) && (backToKw cpos (keywordEach [] X.env)).all (fun x => x.1.isSome)
      && decide ([a].length + ([] : List Keyword).length + (if ([] : List Keyword).isEmpty then 0 else 1) < 30)) = true := by rfl)
    (hline : (apos.endLine == cpos.line) = true := by rfl) (hs : starEach [a] X.env = (false, eval a X.env) :: starEach [] X.env := by rfl) (hplain : (backTo cpos (starEach [] X.env)).any (·.1) = false := by rfl) :
    DV X (CH K C (hDL K) p r) W (.Call (.Attribute (.Subscript o b spos) "append" apos) [a] [] cpos) (tBM K "list" rAppend (tOp (rIxA K) (tVar i) (tVar j)) (tCons ta tNil)) (mAppO i j fa) :=
  ⟨by rw [← q.hX]; exact pe_bm PySem.F.plainAttrs_list PySem.F.slot_list_append PySem.F.type_list_append mt_append (pe_ix (ix_seq.or (ix_dict (by have := q.un; omega))) ho hb hs0) (pa_cons ha.pe pa_nil hs) hbase hfew hline hs hplain, sv_appO hCK ha.sv⟩
/-- xs[k] = dict(e); xs[k][y] = v -/
theorem dss_openD {a' b' y v : Expr} {te tk tv : TE} {fe : M T D} {fk fv : M (T × Nat × List D × List (D × D)) D} {p0 cp p1 p2 p3 pos pos2 : Pos} (q : Cur X C W k cls K) (i j : Nat) (hm : X.mg "dict" = none) (he : DV X C W e te fe) (ha : PE X a (tVar i)) (hb : PE X b (tVar j)) (ha' : PE X a' (tVar i)) (hb' : PE X b' (tVar j))
    (hk : ∀ p r, Cur X (CH K C (hLD K) p r) W k cls K → DV X (CH K C (hLD K) p r) W y tk fk) (hv : ∀ p r, Cur X (CH K C (hLD K) p r) W k cls K → DV X (CH K C (hLD K) p r) W v tv fv) (hr : DSs X C W sts u f')
    (hg : Gl X "dict" := by rfl) (hes : starEach [e] X.env = (false, eval e X.env) :: starEach [] X.env := by rfl) (hs0 : PlainIx b' := by exact fun _ _ => rfl)
    (hsub : ∀ v, assign (.Subscript a b p1) X.env v = (do
      let ov ← holding [v] (eval a X.env)
      let iv ← holding [v, ov] (eval b X.env)
      standAt p1
      holding [v, ov, iv] (setItem ov iv v)
      release [v, ov, iv] []) := by intro _; rfl)
    (hs1 : swapsWithSole [.Subscript a b p1] (.Call (.Name "dict" p0) [e] [] cp) pos.line X.env = pure false := by rfl) (hs2 : swappedStores [.Subscript a b p1] (.Call (.Name "dict" p0) [e] [] cp) X.env = pure none := by rfl) (hs3 : (assignEach [.Subscript a b p1] X.env).map (·.2) = [assign (.Subscript a b p1) X.env] := by rfl)
    (hs4 : swapsWith v (some (.Subscript (.Subscript a' b' p2) y p3)) pos2.line X.env = pure false := by rfl) :
    DSs X C W (.Assign [.Subscript a b p1] (.Call (.Name "dict" p0) [e] [] cp) pos :: .Assign [.Subscript (.Subscript a' b' p2) y p3] v pos2 :: sts)
      (tSeq (tSeq (tAsg (tCB (rDictA K) (tCons te tNil)) (gSub (tVar i) (tVar j) rSetL)) (sDPut (tOp (rIxA K) (tVar i) (tVar j)) tk tv)) u) (mSeq (mOpenD i j fe fk fv) f') := by
  refine ⟨?_, sb_seq (sb_openD q.hK he.sv (fun p r => (hk p r (q.hole _ _ _)).sv) (fun p r => (hv p r (q.hole _ _ _)).sv)) hr.sv⟩
  refine pss_assoc (pss_cons (ps_asg ?_ (pg_sub ha hb set_list hsub) hs1 hs2 hs3) (pss_cons (ps_dput (by have := q.un; omega) ?_ (hk 0 0 (q.hole _ _ _)).pe (hv 0 0 (q.hole _ _ _)).pe hs4) hr.pe))
  · rw [← q.hX]; exact pe_callTy (call_dictD.or (call_dictP q.calm)) hg hm PyProof.Rows.boot_dict (pa_cons he.pe pa_nil hes) (by decide) (by decide) hes (by rfl)
  · rw [← q.hX]; exact pe_ix (ix_seq.or (ix_dict (by have := q.un; omega))) ha' hb' hs0
end
end Pm

set_option Elab.async false
set_option linter.all false
set_option maxRecDepth 100000
/-! Tuples compared by <; xs.remove(n); xs.insert(n, x); max and min of ints; max with a default. -/
namespace Pm
open PySem L2 RZ
/-! ### < of alike data -/
abbrev rLtK (K : PySem.W.Frag) : R2 := fun x y H Q => ∃ a b, Dp K H x a ∧ Dp K H y b ∧ PySem.W.alike a b = true ∧ a ≠ .none ∧ a.depth ≤ 60 ∧ Q (.bl (PySem.W.dataLt a b)) H
theorem op_ltK {X : Cx} (hu : X.A.units + 64 < cLine) : OpR X (compareOp .Lt) (rLtK X.K) := by
  intro pins s σ H x y v u Q I rx ry h
  obtain ⟨d, e, hd, he, ha, hn, hde, q⟩ := h
  obtain ⟨as, r1⟩ := Dp.reads I d x v hd rx
  obtain ⟨bs, r2⟩ := Dp.reads I e y u he ry
  exact PySem.W.lt_data r1 r2 ha hn (by omega) ⟨.bl _, H, I, rfl, q⟩
def okLt (a b : D) : Bool := PyData.canLay0 a && PyData.canLay0 b && PySem.W.alike a b && decide (a.depth ≤ 60)
def opLtX : D → D → Option D
  | .tuple xs, .tuple ys => if okLt (.tuple xs) (.tuple ys) = true then some (.bool (PySem.W.dataLt (.tuple xs) (.tuple ys))) else none
  | a, b => opLt a b
section
variable {T : Type} {C : Ct T} {W : WX} {X : Cx} {k : Nat} {cls : Nat → Addr} {K : PySem.W.Frag}
theorem rv_ltX : Rv C (rOr rLtA (rLtK C.K)) opLtX := by
  intro F0 H0 L s σ F H x y a b Q g rx ry h
  cases rx with
  | tup hx r =>
    cases ry with
    | tup hy r' =>
      rename_i xs ds _ ys es
      dsimp only [opLtX] at h
      by_cases hc : okLt (.tuple ds) (.tuple es) = true
      · rw [if_pos hc] at h
        unfold okLt at hc
        rw [Bool.and_eq_true, Bool.and_eq_true, Bool.and_eq_true] at hc
        exact .inr ⟨_, _, Rep.dp g.sub (.tup hx r) hc.1.1.1, Rep.dp g.sub (.tup hy r') hc.1.1.2, hc.1.2, (fun z => nomatch z), of_decide_eq_true hc.2, rv_end g h (.bl _)⟩
      · rw [if_neg hc] at h; exact h.elim
    | _ => exact h.elim
  | int i => exact .inl (rv_lt F0 H0 L s σ F H _ y _ b Q g (.int i) ry h)
  | str i => exact .inl (rv_lt F0 H0 L s σ F H _ y _ b Q g (.str i) ry h)
  | _ => cases ry <;> exact h.elim
theorem c_ltX {bb : Bool} (q : CurB bb X C W k cls K) : CmpD X C .Lt (rOr rLtA (rLtK K)) opLtX := ⟨by rw [← q.hX]; exact or_lt.or (op_ltK q.un), by rw [← q.hK]; exact rv_ltX, by rw [← q.hK]; exact rv_ltX.scal fun a b ds h => by rcases h with rfl | ⟨ks, rfl⟩ <;> cases b <;> rfl⟩
end
/-! ### remove, insert -/
def remI : List Int → Int → Option (List Int)
  | [], _ => none
  | x :: r, k => if x = k then some r else (remI r k).map (x :: ·)
theorem remI_spec : ∀ {ns ms : List Int} {k : Int}, remI ns k = some ms → ∃ j, ns[j]? = some k ∧ (∀ m : Nat, m < j → ns[m]? ≠ some k) ∧ ms = ns.eraseIdx j
  | [], _, _, h => by cases h
  | x :: r, ms, k, h => by
    unfold remI at h
    by_cases e : x = k
    · rw [if_pos e] at h
      cases h
      exact ⟨0, by rw [e]; rfl, fun m hm => by omega, rfl⟩
    · rw [if_neg e] at h
      cases q : remI r k with
      | none => rw [q] at h; cases h
      | some l =>
        rw [q] at h
        cases h
        obtain ⟨j, h1, h2, h3⟩ := remI_spec q
        refine ⟨j + 1, by simpa using h1, fun m hm => ?_, by rw [h3]; rfl⟩
        cases m with
        | zero => simpa using e
        | succ m => simpa using h2 m (by omega)
def mRemove {T : Type} (i : Nat) (fa : M T D) : M T D := fun s => match s.env[i]? with
  | some (.ol _) => mBind fa (fun d s1 => match s1.env[i]?, d with
    | some (.ol xs), .int k => (match (dInts xs).bind (remI · k) with
      | some ms => .ok .none ⟨s1.env.set i (.ol (ms.map .int)), s1.t⟩
      | none => .stuck)
    | _, _ => .stuck) s
  | _ => .stuck
def mInsert {T : Type} (i : Nat) (fn fa : M T D) : M T D := fun s => match s.env[i]? with
  | some (.ol _) => mBind fn (fun n => mBind fa fun d s1 => match s1.env[i]?, n with
    | some (.ol xs), .int k => if 0 ≤ k ∧ k < 1000000 ∧ xs.length < lim then .ok .none ⟨s1.env.set i (.ol (xs.take k.toNat ++ [d] ++ xs.drop k.toNat)), s1.t⟩ else .stuck
    | _, _ => .stuck) s
  | _ => .stuck
abbrev rInsert : V → List V → Hp → VK → Prop := fun x vs H Q => ∃ (l : Addr) (xs : List V) (i : Int) (y : V), x = .ref l ∧ vs = [.int i, y] ∧ H l = some (.lst xs) ∧ xs.length < sizeLine ∧ 0 ≤ i ∧ i < 2 ^ 63 ∧
    Q .non (upd H l (.lst (xs.take i.toNat ++ [y] ++ xs.drop i.toNat)))
section
variable {T : Type} {C : Ct T} {W : WX}
theorem sv_remove {i : Nat} {ta : TE} {fa : M T D} (ha : Sv C W ta fa) : Sv C W (tBM C.K "list" rRemI (tVar i) (tCons ta tNil)) (mRemove i fa) := by
  intro F0 H0 L s σ F H Q g h
  unfold mRemove at h
  cases q0 : s.env[i]? with
  | none => rw [q0] at h; exact h.elim
  | some x =>
    rw [q0] at h
    cases x with
    | ol xs =>
      simp only at h
      obtain ⟨p, vs, h1, h2, h3, h4, h5⟩ := g.slots i _ q0
      refine ⟨.ref p, h1, .inl ⟨rfl, _, SqL.of h4⟩, ?_⟩
      refine ha _ _ _ _ _ _ _ _ g (po_imp (po_bind h) fun d s1 F1 H1 g1 e1 k1 v rv => ?_)
      cases q1 : s1.env[i]? with
      | none => rw [q1] at k1; exact k1.elim
      | some y =>
        rw [q1] at k1
        cases y with
        | ol ys =>
          cases rv with
          | int k =>
            simp only at k1
            cases q2 : (dInts ys).bind (remI · k) with
            | none => rw [q2] at k1; exact k1.elim
            | some ms =>
              rw [q2] at k1
              obtain ⟨p', ws, z1, z2, z3, z4, z5⟩ := g1.slots i _ q1
              rw [h1] at z1; cases z1
              cases q3 : dInts ys with
              | none => rw [q3] at q2; cases q2
              | some ns =>
                rw [q3] at q2
                have e2 := rep_ints z5 q3
                subst e2
                obtain ⟨j, j1, j2, j3⟩ := remI_spec (ns := ns) (k := k) (ms := ms) q2
                refine ⟨p, ns, k, j, rfl, rfl, z4, j1, j2, ?_⟩
                have g2 := g1.mutate (o := HO.lst ((ns.eraseIdx j).map V.int)) q1 rfl h1 (y := .ol (ms.map .int)) ⟨p, _, rfl, z2, z3, upd_same, by rw [← j3]; exact repl_ints _⟩ z2 z3 ⟨_, z4⟩
                exact k1 _ _ g2 (Same.refl _) _ .non
          | _ => exact k1.elim
        | _ => exact k1.elim
    | _ => exact h.elim
theorem sv_insert {i : Nat} {tn ta : TE} {fn fa : M T D} (hn : Sv C W tn fn) (ha : Sv C W ta fa) : Sv C W (tBM C.K "list" rInsert (tVar i) (tCons tn (tCons ta tNil))) (mInsert i fn fa) := by
  intro F0 H0 L s σ F H Q g h
  unfold mInsert at h
  cases q0 : s.env[i]? with
  | none => rw [q0] at h; exact h.elim
  | some x =>
    rw [q0] at h
    cases x with
    | ol xs =>
      simp only at h
      obtain ⟨p, vs, h1, h2, h3, h4, h5⟩ := g.slots i _ q0
      refine ⟨.ref p, h1, .inl ⟨rfl, _, SqL.of h4⟩, ?_⟩
      refine hn _ _ _ _ _ _ _ _ g (po_imp (po_bind h) fun n s0 F0' H0' g0 e0 k0 nv rn => ?_)
      refine ha _ _ _ _ _ _ _ _ g0 (po_imp (po_bind k0) fun d s1 F1 H1 g1 e1 k1 v rv => ?_)
      cases q1 : s1.env[i]? with
      | none => rw [q1] at k1; exact k1.elim
      | some y =>
        rw [q1] at k1
        cases y with
        | ol ys =>
          cases rn with
          | int k =>
            simp only at k1
            by_cases hc : 0 ≤ k ∧ k < 1000000 ∧ ys.length < lim
            · rw [if_pos hc] at k1
              obtain ⟨p', ws, z1, z2, z3, z4, z5⟩ := g1.slots i _ q1
              rw [h1] at z1; cases z1
              refine ⟨p, ws, k, v, rfl, rfl, z4, by rw [z5.length]; exact Nat.lt_of_lt_of_le hc.2.2 (lim_ok (Nat.le_refl _)), hc.1, by omega, ?_⟩
              have g2 := g1.mutate (o := HO.lst (ws.take k.toNat ++ [v] ++ ws.drop k.toNat)) q1 rfl h1 (y := .ol (ys.take k.toNat ++ [d] ++ ys.drop k.toNat)) ⟨p, _, rfl, z2, z3, upd_same, ((z5.take _).append (.cons rv .nil)).append (z5.drop _)⟩ z2 z3 ⟨_, z4⟩
              exact k1 _ _ g2 (Same.refl _) _ .non
            · rw [if_neg hc] at k1; exact k1.elim
          | _ => exact k1.elim
        | _ => exact k1.elim
    | _ => exact h.elim
end
/-! ### max, min -/
def imax (y : Int) (ys : List Int) : Int := ys.foldl (fun a y => if a < y then y else a) y
def imin (y : Int) (ys : List Int) : Int := ys.foldl (fun a y => if y < a then y else a) y
theorem imax_spec : ∀ (ys : List Int) (y : Int), imax y ys ∈ y :: ys ∧ ∀ z ∈ y :: ys, z ≤ imax y ys
  | [], y => ⟨List.mem_cons_self, fun z hz => by rw [List.mem_singleton.mp hz]; exact Int.le_refl _⟩
  | x :: ys, y => by
    have e : imax y (x :: ys) = imax (if y < x then x else y) ys := rfl
    rw [e]
    by_cases hc : y < x
    · rw [if_pos hc]
      obtain ⟨h1, h2⟩ := imax_spec ys x
      refine ⟨List.mem_cons_of_mem _ h1, fun z hz => ?_⟩
      have h3 := h2 _ List.mem_cons_self
      rcases List.mem_cons.mp hz with q | q
      · rw [q]; omega
      · exact h2 z q
    · rw [if_neg hc]
      obtain ⟨h1, h2⟩ := imax_spec ys y
      refine ⟨?_, fun z hz => ?_⟩
      · rcases List.mem_cons.mp h1 with q | q
        · rw [q]; exact List.mem_cons_self
        · exact List.mem_cons_of_mem _ (List.mem_cons_of_mem _ q)
      · have h3 := h2 _ List.mem_cons_self
        rcases List.mem_cons.mp hz with q | q
        · rw [q]; exact h3
        · rcases List.mem_cons.mp q with q | q
          · rw [q]; omega
          · exact h2 z (List.mem_cons_of_mem _ q)
theorem imin_spec : ∀ (ys : List Int) (y : Int), imin y ys ∈ y :: ys ∧ ∀ z ∈ y :: ys, imin y ys ≤ z
  | [], y => ⟨List.mem_cons_self, fun z hz => by rw [List.mem_singleton.mp hz]; exact Int.le_refl _⟩
  | x :: ys, y => by
    have e : imin y (x :: ys) = imin (if x < y then x else y) ys := rfl
    rw [e]
    by_cases hc : x < y
    · rw [if_pos hc]
      obtain ⟨h1, h2⟩ := imin_spec ys x
      refine ⟨List.mem_cons_of_mem _ h1, fun z hz => ?_⟩
      have h3 := h2 _ List.mem_cons_self
      rcases List.mem_cons.mp hz with q | q
      · rw [q]; omega
      · exact h2 z q
    · rw [if_neg hc]
      obtain ⟨h1, h2⟩ := imin_spec ys y
      refine ⟨?_, fun z hz => ?_⟩
      · rcases List.mem_cons.mp h1 with q | q
        · rw [q]; exact List.mem_cons_self
        · exact List.mem_cons_of_mem _ (List.mem_cons_of_mem _ q)
      · have h3 := h2 _ List.mem_cons_self
        rcases List.mem_cons.mp hz with q | q
        · rw [q]; exact h3
        · rcases List.mem_cons.mp q with q | q
          · rw [q]; omega
          · exact h2 z (List.mem_cons_of_mem _ q)
def maxOr (k : Int) : List Int → Int
  | [] => k
  | y :: ys => imax y ys
def opMax1 : D → Option D
  | .list xs => (dInts xs).bind fun ns => match ns with
    | [] => none
    | y :: ys => some (.int (imax y ys))
  | _ => none
def opMin1 : D → Option D
  | .list xs => (dInts xs).bind fun ns => match ns with
    | [] => none
    | y :: ys => some (.int (imin y ys))
  | _ => none
def opMaxD : D → D → Option D
  | .list xs, .int k => (dInts xs).map fun ns => .int (maxOr k ns)
  | _, _ => none
def tMaxD (K : PySem.W.Frag) (te tb : TE) : TE := fun σ H Q => te σ H fun x H1 => tb σ H1 fun z H2 => ∃ (a : Addr) (ns : List Int) (k : Int), x = .ref a ∧ z = .int k ∧ SqL K H2 a (ns.map V.int) ∧ Q (.int (maxOr k ns)) H2
section
variable {T : Type} {C : Ct T} {W : WX}
theorem ru_max1 : Ru C (fun x => rMax C.K [x]) opMax1 := by
  intro F0 H0 L s σ F H x d Q g rx h
  cases rx with
  | lst hx r =>
    rename_i p xs ds
    dsimp only [opMax1] at h
    cases q : dInts ds with
    | none => rw [q] at h; exact h.elim
    | some ns =>
      rw [q] at h
      cases ns with
      | nil => exact h.elim
      | cons y ys =>
        have e := rep_ints r q
        obtain ⟨s1, s2⟩ := imax_spec ys y
        refine ⟨p, y :: ys, rfl, by rw [← e]; exact SqL.of (g.sub.lst hx), Nat.succ_pos _, fun m hm hle => ?_⟩
        have : m = imax y ys := Int.le_antisymm (s2 m hm) (hle _ s1)
        rw [this]
        exact rv_end g h (.int _)
  | _ => exact h.elim
theorem ru_min1 : Ru C (fun x => rMin C.K [x]) opMin1 := by
  intro F0 H0 L s σ F H x d Q g rx h
  cases rx with
  | lst hx r =>
    rename_i p xs ds
    dsimp only [opMin1] at h
    cases q : dInts ds with
    | none => rw [q] at h; exact h.elim
    | some ns =>
      rw [q] at h
      cases ns with
      | nil => exact h.elim
      | cons y ys =>
        have e := rep_ints r q
        obtain ⟨s1, s2⟩ := imin_spec ys y
        refine ⟨p, y :: ys, rfl, by rw [← e]; exact SqL.of (g.sub.lst hx), Nat.succ_pos _, fun m hm hle => ?_⟩
        have : m = imin y ys := Int.le_antisymm (hle _ s1) (s2 m hm)
        rw [this]
        exact rv_end g h (.int _)
  | _ => exact h.elim
theorem sv_maxD {te tb : TE} {fe fb : M T D} (ha : Sv C W te fe) (hb : Sv C W tb fb) : Sv C W (tMaxD C.K te tb) (mOp opMaxD fe fb) := by
  intro F0 H0 L s σ F H Q g h
  refine ha _ _ _ _ _ _ _ _ g (po_imp (po_bind h) fun a s1 F1 H1 g1 e1 h1 v rv => ?_)
  refine hb _ _ _ _ _ _ _ _ g1 (po_imp (po_bind h1) fun b s2 F2 H2 g2 e2 h2 w rw' => ?_)
  obtain ⟨d, q, h3⟩ := po_lift h2
  have rv := rv.mono e2
  cases rv with
  | lst hx r =>
    rename_i p xs ds
    cases rw' with
    | int k =>
      have q' : (dInts ds).map (fun ns => PyData.int (maxOr k ns)) = some d := q
      cases q1 : dInts ds with
      | none => rw [q1] at q'; cases q'
      | some ns =>
        rw [q1] at q'
        cases q'
        have e := rep_ints r q1
        exact ⟨p, ns, k, rfl, rfl, by rw [← e]; exact SqL.of (g2.sub.lst hx), po_ret h3 g2 _ (.int _)⟩
    | _ => cases q
  | _ => cases rw' <;> cases q
end
theorem toD_ints : ∀ ns : List Int, ns.map (PySem.W.Datum.toD (α := Int)) = ns.map PyData.int := fun ns => rfl
theorem maxOf_imax (y : Int) (ys : List Int) : PySem.W.maxOf y ys = imax y ys := by
  unfold PySem.W.maxOf imax
  congr 1
  funext a y
  show (if (decide (a < y)) = true then y else a) = _
  by_cases h : a < y
  · rw [if_pos h, if_pos (decide_eq_true h)]
  · rw [if_neg h, if_neg (by simpa using h)]
section
variable {X : Cx} {pos kpos p : Pos} {e b : Expr} {te tb : TE}
theorem dpAll_ints {K : PySem.W.Frag} {H : Hp} : ∀ ns : List Int, DpAll K H (ns.map V.int) (ns.map PyData.int)
  | [] => .nil
  | i :: r => .cons (.int i) (dpAll_ints r)
theorem pe_maxD (hc : X.calm = true) (hu : X.A.units + 64 < cLine) (hm : X.mg "max" = none) (he : PE X e te) (hb : PE X b tb) (hg : Gl X "max" := by rfl)
    (hst : backTo pos (starEach [e] X.env) = (false, eval e X.env) :: backTo pos (starEach [] X.env) := by rfl) (hpl : (backTo pos (starEach [e] X.env)).any (·.1) = false := by rfl) (hes : starEach [e] X.env = (false, eval e X.env) :: starEach [] X.env := by rfl) :
    PE X (.Call (.Name "max" p) [e] [⟨some "default", b, kpos⟩] pos) (tMaxD X.K te tb) := by
  refine ⟨fun pins s σ H Q I h => ?_⟩
  refine wpAny_Call_Name_kw (ld_blt I hg hm PyProof.Rows.boot_max ?_ (by decide) (by decide))
  refine PyProof.Rows.callWith_kw (thn ((pa_cons he pa_nil hes).run pos pins s σ H (fun vs H1 => match vs with | [x] => tb σ H1 fun z H2 => ∃ (a : Addr) (ns : List Int) (k : Int), x = .ref a ∧ z = .int k ∧ SqL X.K H2 a (ns.map V.int) ∧ Q (.int (maxOr k ns)) H2 | _ => False) I h) fun us s1 ⟨vs, H1, I1, r1, q1⟩ => ?_) hst hpl rfl rfl
  match vs, r1, q1 with
  | [x], r1, q1 =>
    refine thn ((pk_cons hb pk_nil).run pos pins s1 σ H1 (fun zs H2 => match zs with | [z] => ∃ (a : Addr) (ns : List Int) (k : Int), x = .ref a ∧ z = .int k ∧ SqL X.K H2 a (ns.map V.int) ∧ Q (.int (maxOr k ns)) H2 | _ => False) I1 q1) fun ws s2 ⟨zs, H2, I2, r2, q2⟩ => ?_
    match zs, r2, q2 with
    | [z], r2, q2 =>
      obtain ⟨u, eu, rx⟩ := vals1 r1
      obtain ⟨w, ew, rz⟩ := vals1 r2
      subst eu ew
      obtain ⟨a, ns, k, rfl, rfl, hS, q⟩ := q2
      cases (show u = Value.ref a from rx)
      obtain ⟨t, rfl⟩ := rz
      obtain ⟨its, rv, pl, hz⟩ := I2.list hS
      obtain ⟨as, rs⟩ := Dp.readsAll I2 (ns.map .int) (ns.map V.int) its (dpAll_ints ns) rv
      refine PySem.W.max_list_datum_default (α := Int) (xs := ns) (vs := its.toArray) (I2.ok.hd hc) pl.isList ⟨as, rs⟩ (by have : PySem.W.Datum.depth Int = 0 := rfl; omega) (fun e h' tk hk => ?_) (fun y ys i v h' tk e hi hv hk => ?_)
      · subst e
        exact ⟨.int k, H2, I2.kept hk, ⟨t, rfl⟩, q⟩
      · subst e
        obtain ⟨bs, hr⟩ := hv
        rw [maxOf_imax] at hr
        cases hr
        exact ⟨.int _, H2, I2.kept hk, ⟨_, rfl⟩, q⟩
end
section
variable {T : Type} {X : Cx} {C : Ct T} {W : WX} {k : Nat} {cls : Nat → Addr} {K : PySem.W.Frag} {a b e : Expr} {pos p kpos : Pos} {ta tb : TE} {fa fb : M T D}
theorem dv_maxD (q : Cur X C W k cls K) (hm : X.mg "max" = none) (ha : DV X C W a ta fa) (hb : DV X C W b tb fb) (hg : Gl X "max" := by rfl) (hst : backTo pos (starEach [a] X.env) = (false, eval a X.env) :: backTo pos (starEach [] X.env) := by rfl) (hpl : (backTo pos (starEach [a] X.env)).any (·.1) = false := by rfl) (hes : starEach [a] X.env = (false, eval a X.env) :: starEach [] X.env := by rfl) :
    DV X C W (.Call (.Name "max" p) [a] [⟨some "default", b, kpos⟩] pos) (tMaxD K ta tb) (mOp opMaxD fa fb) := ⟨by rw [← q.hX]; exact pe_maxD q.calm q.un hm ha.pe hb.pe hg hst hpl hes, by rw [← q.hK]; exact sv_maxD ha.sv hb.sv⟩
theorem dv_max1 (q : Cur X C W k cls K) (hm : X.mg "max" = none) (ha : DV X C W a ta fa) (hg : Gl X "max" := by rfl) (he : starEach [a] X.env = (false, eval a X.env) :: starEach [] X.env := by rfl) : DV X C W (.Call (.Name "max" p) [a] [] pos) (tCB (rMax K) (tCons ta tNil)) (mUn opMax1 fa) :=
  ⟨by rw [← q.hX]; exact pe_callB (cr_max q.calm) hg hm PyProof.Rows.boot_max (pa_cons ha.pe pa_nil he) (by decide) (by decide) he (by rfl), by rw [← q.hK]; exact sv_cb1 ha.sv ru_max1⟩
theorem dv_min1 (q : Cur X C W k cls K) (hm : X.mg "min" = none) (ha : DV X C W a ta fa) (hg : Gl X "min" := by rfl) (he : starEach [a] X.env = (false, eval a X.env) :: starEach [] X.env := by rfl) : DV X C W (.Call (.Name "min" p) [a] [] pos) (tCB (rMin K) (tCons ta tNil)) (mUn opMin1 fa) :=
  ⟨by rw [← q.hX]; exact pe_callB (cr_min q.calm) hg hm PyProof.Rows.boot_min (pa_cons ha.pe pa_nil he) (by decide) (by decide) he (by rfl), by rw [← q.hK]; exact sv_cb1 ha.sv ru_min1⟩
theorem dv_remove {bb : Bool} (q : CurB bb X C W k cls K) (i : Nat) {o : Expr} {apos cpos : Pos} (ho : PE X o (tVar i)) (ha : DV X C W a ta fa)
    (hbase : attributeBase o "remove" X.env (eval o X.env) = eval o X.env := by rfl)
    (hfew : ((backTo cpos (starEach [a] X.env)).all (fun x => !x.1) && (backToKw cpos (keywordEach [] X.env)).all (fun x => x.1.isSome)
      && decide ([a].length + ([] : List Keyword).length + (if ([] : List Keyword).isEmpty then 0 else 1) < 30)) = true := by rfl)
    (hline : (apos.endLine == cpos.line) = true := by rfl) (hs : starEach [a] X.env = (false, eval a X.env) :: starEach [] X.env := by rfl) (hplain : (backTo cpos (starEach [] X.env)).any (·.1) = false := by rfl) :
    DV X C W (.Call (.Attribute o "remove" apos) [a] [] cpos) (tBM K "list" rRemI (tVar i) (tCons ta tNil)) (mRemove i fa) :=
  ⟨by rw [← q.hX]; exact pe_bm PySem.F.plainAttrs_list PySem.F.slot_list_remove PySem.F.type_list_remove mt_remove ho (pa_cons ha.pe pa_nil hs) hbase hfew hline hs hplain, by rw [← q.hK]; exact sv_remove ha.sv⟩
theorem dv_insert {bb : Bool} (q : CurB bb X C W k cls K) (i : Nat) {o : Expr} {apos cpos : Pos} (ho : PE X o (tVar i)) (hb : DV X C W b tb fb) (ha : DV X C W a ta fa)
    (hbase : attributeBase o "insert" X.env (eval o X.env) = eval o X.env := by rfl)
    (hfew : ((backTo cpos (starEach [b, a] X.env)).all (fun x => !x.1) && (backToKw cpos (keywordEach [] X.env)).all (fun x => x.1.isSome)
      && decide ([b, a].length + ([] : List Keyword).length + (if ([] : List Keyword).isEmpty then 0 else 1) < 30)) = true := by rfl)
    (hline : (apos.endLine == cpos.line) = true := by rfl) (hs : starEach [b, a] X.env = (false, eval b X.env) :: starEach [a] X.env := by rfl) (hs2 : starEach [a] X.env = (false, eval a X.env) :: starEach [] X.env := by rfl) (hplain : (backTo cpos (starEach [a] X.env)).any (·.1) = false := by rfl) :
    DV X C W (.Call (.Attribute o "insert" apos) [b, a] [] cpos) (tBM K "list" rInsert (tVar i) (tCons tb (tCons ta tNil))) (mInsert i fb fa) :=
  ⟨by rw [← q.hX]; exact pe_bm PySem.F.plainAttrs_list PySem.F.slot_list_insert PySem.F.type_list_insert mt_insert ho (pa_cons hb.pe (pa_cons ha.pe pa_nil hs2) hs) hbase hfew hline hs hplain, by rw [← q.hK]; exact sv_insert hb.sv ha.sv⟩
end
end Pm

set_option Elab.async false
set_option linter.all false
set_option maxRecDepth 100000
/-! count of nested data; evaluation of what is new. -/
namespace Pm
open PySem L2 RZ
abbrev rCntD (K : PySem.W.Frag) : V → List V → Hp → VK → Prop := fun x xs H Q => ∃ (a : Addr) (y : V) (d : D) (ds : List D), x = .ref a ∧ xs = [y] ∧ Dp K H (.ref a) (.list ds) ∧ Dp K H y d ∧ deepOk d ds = true ∧ Q (.int (ds.countP fun z => PyData.eqv z d : Nat)) H
open PySem.Spec PyProof.Rows in
theorem mt_countD {X : Cx} (hu : X.A.units + 64 < cLine) : MtR X "list.count" (rCntD X.K) := by
  intro pins s σ H x xs v us Q I rx rxs h
  obtain ⟨a, y, d, ds, rfl, rfl, hl, hy, ok, q⟩ := h
  obtain ⟨o1, o2, o3⟩ := deepOk_of ok
  cases rx
  obtain ⟨uy, rfl, ry⟩ := rxs.one
  obtain ⟨bs, r1⟩ := Dp.reads I d y uy hy ry
  have hroom : X.A.units + 1 + min (PyData.depthAll ds) d.depth < cLine := by
    have : min (PyData.depthAll ds) d.depth ≤ d.depth := Nat.min_le_right _ _
    omega
  cases hl with
  | lst hs ha =>
    obtain ⟨its, rv, ⟨⟨cls, dd, data, sls⟩, n, ho, hc, hdn, hdt⟩, hlen⟩ := I.list hs
    simp only at hc hdt
    subst hc hdt
    obtain ⟨as, h4⟩ := Dp.readsAll I ds _ its ha rv
    have hmap : its.map (SeqAt.readOf s.heap) = ds := SeqAt.readsAll_map ds its as o3 h4
    refine call_meets PySem.F.slot_list_count ⟨_, ho, rfl⟩ PySem.F.entry_list_count (PySem.F.args_list_count_2 _ _)
      (SeqAt.list_countAt a its.toArray n dd sls uy (fun u => PyData.eqv (SeqAt.readOf s.heap u) d)) ⟨ho, SeqAt.items_eqAt (vs := its.toArray) (show ReadsAll s.heap its.toArray.toList ds as from h4) r1 o3 o1 hroom, ?_⟩
    refine ⟨.int (ds.countP fun z => PyData.eqv z d : Nat), H, I.tok _, ⟨s.toks, ?_⟩, q⟩
    show Value.int ((its.toArray.toList.countP _ : Nat) : Int) s.toks = _
    have e : its.toArray.toList.countP (fun u => PyData.eqv (SeqAt.readOf s.heap u) d) = ds.countP fun z => PyData.eqv z d := by
      rw [← hmap, List.countP_map]
      rfl
    rw [e]
def opCountD : D → D → Option D
  | .list ds, y => if deepOk y ds = true then some (.int (ds.countP fun z => PyData.eqv z y : Nat)) else none
  | _, _ => none
section
variable {T : Type} {C : Ct T} {W : WX}
theorem rw_countD : Rw C (fun x y => rCntD C.K x [y]) opCountD := by
  intro F0 H0 L s σ F H x y a b Q g rx ry h
  cases a with
  | list ds =>
    obtain ⟨p, vs, rfl, hs, r⟩ := rsh_list g rx
    dsimp only [opCountD] at h
    by_cases hl : deepOk b ds = true
    · rw [if_pos hl] at h
      obtain ⟨o1, o2, o3⟩ := deepOk_of hl
      exact ⟨p, y, b, ds, rfl, rfl, .lst hs (r.dp g.sub o3), ry.dp g.sub o1, hl, rv_end g h (.int _)⟩
    · rw [if_neg hl] at h; exact h.elim
  | _ => exact h.elim
end
section
variable {T : Type} {X : Cx} {C : Ct T} {W : WX} {k : Nat} {cls : Nat → Addr} {K : PySem.W.Frag} {a b e : Expr} {ta tb : TE} {fa fb : M T D}
theorem dv_countDP {bb : Bool} (q : CurB bb X C W k cls K) (i : Nat) {o : Expr} {apos cpos : Pos} (ho : PE X o (tVar i)) (ha : DV X C W a ta fa)
    (hbase : attributeBase o "count" X.env (eval o X.env) = eval o X.env := by rfl)
    (hfew : ((backTo cpos (starEach [a] X.env)).all (fun x => !x.1) && (backToKw cpos (keywordEach [] X.env)).all (fun x => x.1.isSome)
      && decide ([a].length + ([] : List Keyword).length + (if ([] : List Keyword).isEmpty then 0 else 1) < 30)) = true := by rfl)
    (hline : (apos.endLine == cpos.line) = true := by rfl) (hs : starEach [a] X.env = (false, eval a X.env) :: starEach [] X.env := by rfl) (hplain : (backTo cpos (starEach [] X.env)).any (·.1) = false := by rfl) :
    DV X C W (.Call (.Attribute o "count" apos) [a] [] cpos) (tBM K "list" (rCntD K) (tVar i) (tCons ta tNil)) (mBmP opCountD i fa) :=
  ⟨by rw [← q.hX]; exact pe_bm PySem.F.plainAttrs_list PySem.F.slot_list_count PySem.F.type_list_count (mt_countD q.un) ho (pa_cons ha.pe pa_nil hs) hbase hfew hline hs hplain, by rw [← q.hK]; exact sv_bmP ha.sv rw_countD⟩
end
/-! ### evaluation -/
section
variable {T : Type}
def fBm2 (op : D → D → Option D) (b : D) (r : Res T D) : Res T D := match r with
  | .ok a s => lR (op a b) s
  | .exc c s => .exc c s
  | .stuck => .stuck
def fBm1 (op : D → D → Option D) (i : Nat) (r : Res T D) : Res T D := match r with
  | .ok b s => fBm2 op b (slotD i s)
  | .exc c s => .exc c s
  | .stuck => .stuck
def fBm0 (op : D → D → Option D) (i : Nat) (fb : M T D) (r : Res T D) : Res T D := match r with
  | .ok (.list _) s => fBm1 op i (fb s)
  | .ok _ s => .stuck
  | .exc c s => .exc c s
  | .stuck => .stuck
theorem e_bmP (op : D → D → Option D) (i : Nat) (fb : M T D) (s : S T) : mBmP op i fb s = fBm0 op i fb (slotD i s) := by
  unfold mBmP mBind
  cases slotD i s with
  | exc c s => rfl
  | stuck => rfl
  | ok d s1 =>
    cases d with
    | list ds =>
      show mBind fb (fun b => mBind (slotD i) fun a => mLift (op a b)) s1 = fBm1 op i (fb s1)
      unfold mBind
      cases fb s1 with
      | exc c s => rfl
      | stuck => rfl
      | ok b s2 =>
        show mBind (slotD i) (fun a => mLift (op a b)) s2 = fBm2 op b (slotD i s2)
        unfold mBind
        cases slotD i s2 <;> rfl
    | _ => rfl
theorem fBm0_l (op : D → D → Option D) (i : Nat) (fb : M T D) (ds : List D) (s : S T) : fBm0 op i fb (.ok (.list ds) s) = fBm1 op i (fb s) := rfl
theorem fBm1_ok (op : D → D → Option D) (i : Nat) (b : D) (s : S T) : fBm1 op i (.ok b s) = fBm2 op b (slotD i s) := rfl
theorem fBm2_ok (op : D → D → Option D) (b a : D) (s : S T) : fBm2 op b (.ok a s) = lR (op a b) s := rfl
/-- sorted with a key -/
def fSortK (kf : S T → D → Option PyData) (r : Res T D) : Res T Slot := match r with
  | .ok (.list ds) s => (match sortD (kf s) ds with
    | some r => .ok (.ol r) s
    | none => .stuck)
  | .ok _ _ => .stuck
  | .exc c s => .exc c s
  | .stuck => .stuck
theorem e_sortK (kf : S T → D → Option PyData) (f : M T D) (s : S T) : mSortK kf f s = fSortK kf (f s) := by
  unfold mSortK mBind
  cases f s with
  | exc c s => rfl
  | stuck => rfl
  | ok d s => cases d <;> rfl
theorem fSortK_of {kf : S T → D → Option PyData} {ds out : List D} {s : S T} (h : sortD (kf s) ds = some out) : fSortK kf (.ok (.list ds) s) = .ok (.ol out) s := by
  unfold fSortK
  dsimp only
  rw [h]
/-- a town def called with keywords -/
def cRt (e : List Slot) : Rt T → Res T D
  | .ok d t' => .ok d ⟨e, t'⟩
  | .exc c t' => .exc c ⟨e, t'⟩
  | .stuck => .stuck
theorem cRt_ok (e : List Slot) (d : D) (t : T) : cRt e (.ok d t) = .ok d ⟨e, t⟩ := rfl
theorem cRt_ex (e : List Slot) (c : Nat) (t : T) : cRt e (.exc c t) = .exc c ⟨e, t⟩ := rfl
def fCTK2 (n m : Nat) (g : List Slot → T → Rt T) (ds : List D) (r : Res T (List D)) : Res T D := match r with
  | .ok es s => if ds.length = n ∧ es.length = m then cRt s.env (g ((ds ++ es).map .fz) s.t) else .stuck
  | .exc c s => .exc c s
  | .stuck => .stuck
def fCTK1 (n m : Nat) (g : List Slot → T → Rt T) (fk : M T (List D)) (r : Res T (List D)) : Res T D := match r with
  | .ok ds s => fCTK2 n m g ds (fk s)
  | .exc c s => .exc c s
  | .stuck => .stuck
theorem e_callTK (n m : Nat) (g : List Slot → T → Rt T) (fr fk : M T (List D)) (s : S T) : mCallTK n m g fr fk s = fCTK1 n m g fk (fr s) := by
  unfold mCallTK
  show fB _ (fr s) = _
  cases fr s with
  | exc c s => rfl
  | stuck => rfl
  | ok ds s1 =>
    show fB _ (fk s1) = fCTK2 n m g ds (fk s1)
    cases fk s1 with
    | exc c s => rfl
    | stuck => rfl
    | ok es s2 =>
      show (if ds.length = n ∧ es.length = m then _ else _) = (if ds.length = n ∧ es.length = m then _ else _)
      by_cases h : ds.length = n ∧ es.length = m
      · rw [if_pos h, if_pos h]
        cases g ((ds ++ es).map .fz) s2.t <;> rfl
      · rw [if_neg h, if_neg h]
theorem fCTK1_ok (n m : Nat) (g : List Slot → T → Rt T) (fk : M T (List D)) (ds : List D) (s : S T) : fCTK1 n m g fk (.ok ds s) = fCTK2 n m g ds (fk s) := rfl
theorem fCTK2_of {n m : Nat} (g : List Slot → T → Rt T) {ds es : List D} {e : List Slot} {t : T} (h1 : ds.length = n) (h2 : es.length = m) : fCTK2 n m g ds (.ok es ⟨e, t⟩) = cRt e (g ((ds ++ es).map .fz) t) := if_pos ⟨h1, h2⟩
/-- a list opened in a dict -/
def fOpL (i : Nat) (r : Res (T × UL) Out) : Res T Out := match r with
  | .ok .nx s' => if (isP9 s'.env[i]? && no9 (s'.env.set i .un)) = true then .ok .nx ⟨s'.env.set i (.od (putD s'.t.2.1 s'.t.2.2.1 (.list s'.t.2.2.2))), s'.t.1⟩ else .stuck
  | _ => .stuck
theorem e_openL {i k : Nat} {f : M (T × UL) Out} {e : List Slot} {t : T} {kvs : List (D × D)} {d : D} {key : Key} (h1 : e[i]? = some (.od kvs)) (h2 : e[k]? = some (.fz d)) (h3 : keyOf d = some key) (h4 : no9 e = true) (h5 : kvs.length < lim) :
    mOpenL i k f ⟨e, t⟩ = fOpL i (f ⟨e.set i (.pt 9), (t, (kvs, key, []))⟩) := by
  unfold mOpenL
  simp only [h1, h2, h3]
  rw [if_pos (by rw [h4, decide_eq_true h5]; rfl)]
  cases f ⟨e.set i (.pt 9), (t, (kvs, key, []))⟩ with
  | ok o s => cases o <;> rfl
  | exc c s => rfl
  | stuck => rfl
theorem fOpL_of {i : Nat} {e : List Slot} {t : T} {kvs : List (D × D)} {key : Key} {xs : List D} (h1 : e[i]? = some (.pt 9)) (h2 : no9 (e.set i .un) = true) : fOpL i (.ok .nx ⟨e, (t, (kvs, key, xs))⟩) = .ok .nx ⟨e.set i (.od (putD kvs key (.list xs))), t⟩ := by
  unfold fOpL
  have : isP9 e[i]? = true := by rw [h1]; rfl
  dsimp only
  rw [if_pos (by rw [this, h2]; rfl)]
def fAppO (r : Res (T × UL) D) : Res (T × UL) D := match r with
  | .ok d s1 => if s1.t.2.2.2.length < lim then .ok .none ⟨s1.env, (s1.t.1, (s1.t.2.1, s1.t.2.2.1, s1.t.2.2.2 ++ [d]))⟩ else .stuck
  | .exc c s => .exc c s
  | .stuck => .stuck
theorem e_appO {i k : Nat} {fa : M (T × UL) D} {e : List Slot} {t : T} {kvs : List (D × D)} {d : D} {key : Key} {xs : List D} (h1 : e[i]? = some (.pt 9)) (h2 : e[k]? = some (.fz d)) (h3 : keyOf d = some key) : mAppO i k fa ⟨e, (t, (kvs, key, xs))⟩ = fAppO (fa ⟨e, (t, (kvs, key, xs))⟩) := by
  unfold mAppO
  simp only [h1, h2]
  have : isP9 (some (.pt 9)) = true := rfl
  rw [if_pos ⟨this, h3⟩]
  unfold mBind
  cases fa ⟨e, (t, (kvs, key, xs))⟩ <;> rfl
theorem fAppO_of {e : List Slot} {t : T} {kvs : List (D × D)} {d : D} {key : Key} {xs : List D} (h : xs.length < lim) : fAppO (.ok d ⟨e, (t, (kvs, key, xs))⟩) = .ok .none ⟨e, (t, (kvs, key, xs ++ [d]))⟩ := if_pos h
/-- a dict opened in a list -/
theorem e_openD {i k : Nat} {fe : M T D} {fk fv : M (T × Nat × List D × List (D × D)) D} {s : S T} {d v y : D} {e : List Slot} {t : T} {kvs : List (D × D)} {xs : List D} {n : Int} {m : Nat} {key : Key} (h0 : fe s = .ok d ⟨e, t⟩) (h1 : dictOf d = some kvs) (h2 : e[i]? = some (.ol xs)) (h3 : e[k]? = some (.fz (.int n))) (h4 : ixN xs.length n = some m) (h5 : no9 e = true)
    (h6 : fv ⟨e.set i (.pt 9), (t, (m, xs, kvs))⟩ = .ok v ⟨e.set i (.pt 9), (t, (m, xs, kvs))⟩) (h7 : fk ⟨e.set i (.pt 9), (t, (m, xs, kvs))⟩ = .ok y ⟨e.set i (.pt 9), (t, (m, xs, kvs))⟩) (h8 : keyOf y = some key) (h9 : kvs.length < lim) (h10 : i < e.length) (h11 : no9 (e.set i .un) = true) :
    mOpenD i k fe fk fv s = .ok .nx ⟨e.set i (.ol (xs.set m (.dict (putD kvs key v)))), t⟩ := by
  unfold mOpenD
  rw [e_bind, h0, fB_ok]
  simp only [h1, h2, h3, h4]
  rw [if_pos h5]
  rw [e_bind, h6, fB_ok]
  dsimp only
  have e1 : mBind fk (fun y => mRet (v, y)) ⟨e.set i (.pt 9), (t, (m, xs, kvs))⟩ = .ok (v, y) ⟨e.set i (.pt 9), (t, (m, xs, kvs))⟩ := by
    unfold mBind
    rw [h7]
    rfl
  rw [if_pos h4, e1]
  simp only [h8]
  have p9 : isP9 (e.set i (.pt 9))[i]? = true := by rw [List.getElem?_set_self h10]; rfl
  rw [if_pos (by rw [List.set_set, p9, h11, decide_eq_true h9]; rfl), List.set_set]
/-- remove -/
def fRem1 (i : Nat) (r : Res T D) : Res T D := match r with
  | .ok (.int k) s => (match s.env[i]? with
    | some (.ol xs) => (match (dInts xs).bind (remI · k) with
      | some ms => .ok .none ⟨s.env.set i (.ol (ms.map .int)), s.t⟩
      | none => .stuck)
    | _ => .stuck)
  | .ok _ _ => .stuck
  | .exc c s => .exc c s
  | .stuck => .stuck
theorem e_remove {i : Nat} {fa : M T D} {e : List Slot} {t : T} {xs : List D} (h : e[i]? = some (.ol xs)) : mRemove i fa ⟨e, t⟩ = fRem1 i (fa ⟨e, t⟩) := by
  unfold mRemove
  simp only [h]
  unfold mBind
  cases fa ⟨e, t⟩ with
  | exc c s => rfl
  | stuck => rfl
  | ok d s =>
    cases d with
    | int k =>
      unfold fRem1
      dsimp only
      generalize s.env[i]? = o
      cases o with
      | none => rfl
      | some y => cases y <;> rfl
    | _ =>
      unfold fRem1
      dsimp only
      generalize s.env[i]? = o
      cases o with
      | none => rfl
      | some y => cases y <;> rfl
theorem fRem1_of {i : Nat} {e : List Slot} {t : T} {ns ms : List Int} {k : Int} (h : e[i]? = some (.ol (ns.map .int))) (h2 : remI ns k = some ms) : fRem1 i (.ok (.int k) ⟨e, t⟩) = .ok .none ⟨e.set i (.ol (ms.map .int)), t⟩ := by
  unfold fRem1
  simp only [h]
  have : dInts (ns.map PyData.int) = some ns := by
    have := dInts_map id ns
    simpa using this
  rw [this]
  simp only [Option.bind_some, h2]
end
end Pm

set_option Elab.async false
set_option linter.all false
set_option maxRecDepth 100000
/-! A for over an own list that stays own: within the loop it is a list of the base. -/
namespace Pm
open PySem L2 RZ
def mForB {T : Type} (i : Nat) (p : D → M T Unit) (fb : M T Out) : M T Out := fun s => match s.env[i]? with
  | some (.ol xs) => (match mFor (fun s1 => .ok xs s1) p fb ⟨s.env.set i (.bw xs), s.t⟩ with
    | .ok .nx s' => (match s'.env[i]? with
      | some (.bw _) => .ok .nx ⟨s'.env.set i (.ol xs), s'.t⟩
      | _ => .stuck)
    | _ => .stuck)
  | _ => .stuck
section
variable {T : Type} {C : Ct T} {W : WX} {F0 H0 F H : Hp} {L : Nat → Option Addr} {s : S T} {σ : L2.St}
theorem it_listB {K : PySem.W.Frag} {H1 : Hp} {a : Addr} {xs : List V} {ds : List D} (hx : H1 a = some (.lst xs)) (hn : a ∉ C.fp) (r : RepL K F xs ds) : ItOk K F (Bs C H1) (Itl K a) ds :=
  ⟨_, _, r.length ▸ walk_list (K := K) (a := a) (xs := xs), fun F' H' e u b => SqL.of (b _ _ hx hn), fun i x F' H' H3 d e u hd y => by
    obtain ⟨e1, e2⟩ := y
    obtain ⟨v, h1, h2⟩ := r.get hd
    rw [e2] at h1; cases h1
    exact .inl ⟨e1, h2.mono e⟩⟩
theorem Good.lend (g : Good C F0 H0 L s σ F H) {i : Nat} {xs : List D} {p : Addr} {vs : List V} (hx : s.env[i]? = some (.ol xs)) (hp : σ[i]? = some (some (.ref p))) (pF : F p = none) (p0 : H0 p = none) (hH : H p = some (.lst vs)) (r : RepL C.K F vs xs) :
    Good C F0 (upd H0 p (.lst vs)) (fun j => if j = i then some p else L j) ⟨s.env.set i (.bw xs), s.t⟩ σ F H := by
  have hpf : p ∉ C.fp := fun z => g.fp0 p z p0
  have hil : i < s.env.length := by
    rcases Nat.lt_or_ge i s.env.length with z | z
    · exact z
    · rw [List.getElem?_eq_none z] at hx; cases hx
  have neq : ∀ a, H0 a ≠ none → a ≠ p := fun a h e => h (e ▸ p0)
  have up : ∀ a, H0 a ≠ none → upd H0 p (.lst vs) a = H0 a := fun a h => upd_ne (neq a h)
  have at_ne : ∀ j x, j ≠ i → (s.env.set i (.bw xs))[j]? = some x → s.env[j]? = some x := fun j x h e => by
    rwa [List.getElem?_set_ne (fun z => h z.symm)] at e
  have at_eq : ∀ x, (s.env.set i (.bw xs))[i]? = some x → x = .bw xs := fun x e => by
    rw [List.getElem?_set_self hil] at e
    cases e; rfl
  refine { len := by rw [List.length_set]; exact g.len, sub := g.sub, ext0 := g.ext0, base := ?_, newF := ?_, fp0 := ?_, fpF := g.fpF, fpH := g.fpH, lH := ?_, slots := ?_, sep := ?_, j := g.j }
  · intro a o e z
    by_cases h : a = p
    · subst h
      rw [upd_same] at e
      cases e
      exact hH
    · rw [upd_ne h] at e
      exact g.base a o e z
  · intro a o e
    rcases g.newF a o e with z | z | z
    · exact .inl z
    rotate_left
    · exact .inr (.inr z)
    · refine .inr (.inl ?_)
      have : a ≠ p := fun h => by rw [h, pF] at e; cases e
      rw [upd_ne this]
      exact z
  · intro a z
    rw [up a (g.fp0 a z)]
    exact g.fp0 a z
  · intro j q e
    by_cases h : j = i
    · rw [if_pos h] at e
      cases e
      rw [upd_same]
      exact fun z => nomatch z
    · rw [if_neg h] at e
      rw [up q (g.lH j q e)]
      exact g.lH j q e
  · intro j x e
    by_cases h : j = i
    · subst h
      rw [at_eq x e]
      exact ⟨p, vs, if_pos rfl, hp, hpf, upd_same, r⟩
    · have e' := at_ne j x h e
      have k := g.slots j x e'
      cases x with
      | un => exact trivial
      | pt n => exact k
      | fz d => exact k
      | ol ys =>
        obtain ⟨p', vs', h1, h2, h3, h4, h5⟩ := k
        have : p' ≠ p := fun z => g.sep i j _ _ p (fun y => h y.symm) hx e' rfl rfl hp (by rw [h1, z])
        exact ⟨p', vs', h1, h2, by rw [upd_ne this]; exact h3, h4, h5⟩
      | od ys =>
        obtain ⟨p', vs', h1, h2, h3, h4, h5⟩ := k
        have : p' ≠ p := fun z => g.sep i j _ _ p (fun y => h y.symm) hx e' rfl rfl hp (by rw [h1, z])
        exact ⟨p', vs', h1, h2, by rw [upd_ne this]; exact h3, h4, h5⟩
      | bw ys =>
        obtain ⟨q, vs', h1, h2, h3, h4, h5⟩ := k
        refine ⟨q, vs', ?_, h2, h3, ?_, h5⟩
        · show (if j = i then some p else L j) = some q
          rw [if_neg h]; exact h1
        · rw [up q (by rw [h4]; exact fun z => nomatch z)]; exact h4
  · intro a b x y q hab ha hb ox oy hq
    have na : a ≠ i := fun h => by
      subst h
      rw [at_eq x ha] at ox
      cases ox
    have nb : b ≠ i := fun h => by
      subst h
      rw [at_eq y hb] at oy
      cases oy
    exact g.sep a b x y q hab (at_ne a x na ha) (at_ne b y nb hb) ox oy hq
theorem Good.back (g : Good C F0 H0 L s σ F H) {i : Nat} {xs : List D} {p : Addr} {vs : List V} (pF : F p = none) (p0 : H0 p = none) (r : RepL C.K F vs xs) {s' : S T} {σ' : L2.St} {F' H' : Hp} (e : Same F F') (hy : ∃ ys, s'.env[i]? = some (.bw ys))
    (g' : Good C F0 (upd H0 p (.lst vs)) (fun j => if j = i then some p else L j) s' σ' F' H') : Good C F0 H0 L ⟨s'.env.set i (.ol xs), s'.t⟩ σ' F' H' := by
  obtain ⟨ys, hy⟩ := hy
  have hpf : p ∉ C.fp := fun z => g.fp0 p z p0
  have hil : i < s'.env.length := by
    rcases Nat.lt_or_ge i s'.env.length with z | z
    · exact z
    · rw [List.getElem?_eq_none z] at hy; cases hy
  have neq : ∀ a, H0 a ≠ none → a ≠ p := fun a h e => h (e ▸ p0)
  have up : ∀ a, H0 a ≠ none → upd H0 p (.lst vs) a = H0 a := fun a h => upd_ne (neq a h)
  have dn : ∀ a, upd H0 p (.lst vs) a = none → H0 a = none ∧ a ≠ p := fun a h => by
    have : a ≠ p := fun z => by rw [z, upd_same] at h; cases h
    rw [upd_ne this] at h
    exact ⟨h, this⟩
  have at_ne : ∀ j x, j ≠ i → (s'.env.set i (.ol xs))[j]? = some x → s'.env[j]? = some x := fun j x h e => by
    rwa [List.getElem?_set_ne (fun z => h z.symm)] at e
  have at_eq : ∀ x, (s'.env.set i (.ol xs))[i]? = some x → x = .ol xs := fun x e => by
    rw [List.getElem?_set_self hil] at e
    cases e; rfl
  obtain ⟨q, ws, k1, k2, k3, k4, k5⟩ := g'.slots i _ hy
  have k1 : (if i = i then some p else L i) = some q := k1
  rw [if_pos rfl] at k1
  cases k1
  have hH' : H' p = some (.lst vs) := g'.base p _ upd_same hpf
  have pF' : F' p = none := by
    cases z : F' p with
    | none => rfl
    | some o =>
      rcases g'.newF p o z with y | y | ⟨_, xs, rfl⟩
      · rw [g.ext0 p o y] at pF; cases pF
      · rw [upd_same] at y; cases y
      · rcases g'.sub p _ z with k2 | ⟨⟨ks, k2⟩, _⟩
        · rw [hH'] at k2; cases k2
        · cases k2
  have hold : ∀ j x, j ≠ i → s'.env[j]? = some x → x.owned = true → σ'[j]? ≠ some (some (.ref p)) := fun j x h hx ox z => by
    have k := g'.slots j x hx
    cases x with
    | ol ys =>
      obtain ⟨p', vs', h1, h2, h3, h4, h5⟩ := k
      rw [z] at h1
      cases h1
      rw [upd_same] at h3
      cases h3
    | od ys =>
      obtain ⟨p', vs', h1, h2, h3, h4, h5⟩ := k
      rw [z] at h1
      cases h1
      rw [upd_same] at h3
      cases h3
    | _ => cases ox
  refine { len := by rw [List.length_set]; exact g'.len, sub := g'.sub, ext0 := g'.ext0, base := ?_, newF := ?_, fp0 := g.fp0, fpF := g'.fpF, fpH := g'.fpH, lH := g.lH, slots := ?_, sep := ?_, j := g'.j }
  · intro a o h z
    exact g'.base a o (by rw [up a (by rw [h]; exact fun z => nomatch z)]; exact h) z
  · intro a o h
    rcases g'.newF a o h with z | z | z
    · exact .inl z
    · exact .inr (.inl (dn a z).1)
    · exact .inr (.inr z)
  · intro j x hx
    by_cases h : j = i
    · subst h
      rw [at_eq x hx]
      exact ⟨p, vs, k2, pF', p0, hH', r.mono e⟩
    · have hx' := at_ne j x h hx
      have k := g'.slots j x hx'
      cases x with
      | un => exact trivial
      | pt n => exact k
      | fz d => exact k
      | ol ys =>
        obtain ⟨p', vs', h1, h2, h3, h4, h5⟩ := k
        exact ⟨p', vs', h1, h2, (dn p' h3).1, h4, h5⟩
      | od ys =>
        obtain ⟨p', vs', h1, h2, h3, h4, h5⟩ := k
        exact ⟨p', vs', h1, h2, (dn p' h3).1, h4, h5⟩
      | bw ys =>
        obtain ⟨q', vs', h1, h2, h3, h4, h5⟩ := k
        have h1 : (if j = i then some p else L j) = some q' := h1
        rw [if_neg h] at h1
        exact ⟨q', vs', h1, h2, h3, by rw [← up q' (g.lH j q' h1)]; exact h4, h5⟩
  · intro a b x y q hab ha hb ox oy hq
    by_cases za : a = i
    · subst za
      have hb' := at_ne b y (fun z => hab z.symm) hb
      rw [k2] at hq
      cases hq
      exact hold b y (fun z => hab z.symm) hb' oy
    · by_cases zb : b = i
      · subst zb
        rw [k2]
        intro z
        cases z
        exact hold a x za (at_ne a x za ha) ox hq
      · exact g'.sep a b x y q hab (at_ne a x za ha) (at_ne b y zb hb) ox oy hq
end
section
variable {T : Type} {C : Ct T} {W : WX} {X : Cx} {k : Nat} {cls : Nat → Addr} {K : PySem.W.Frag}
theorem sb_forB {i : Nat} {tg : TG} {is : List Nat} {p : D → M T Unit} {t : TS} {f : M T Out} (hg : Sg C tg is p) (hb : Sb C W t f) : Sb C W (tFor (iSeq C.K (tVar i)) tg t) (mForB i p f) := by
  intro F0 H0 L s σ F H E g h
  unfold mForB at h
  cases q : s.env[i]? with
  | none => rw [q] at h; exact h.elim
  | some x =>
    rw [q] at h
    cases x with
    | ol xs =>
      simp only at h
      obtain ⟨a, vs, h1, h2, h3, h4, h5⟩ := g.slots i _ q
      have g1 := g.lend q h1 h2 h3 h4 h5
      have hpf : a ∉ C.fp := fun z => g.fp0 a z h3
      refine sb_for_at (F0 := F0) (F := F) (H0 := upd H0 a (.lst vs)) (L := fun j => if j = i then some a else L j) (s := ⟨s.env.set i (.bw xs), s.t⟩) (fi := fun s1 => .ok xs s1) (fun R hR => ?_) hg hb ?_
      · exact ⟨_, h1, .inl ⟨a, rfl, ⟨vs, SqL.of h4⟩, hR F H g1 (Same.refl _) _ (it_listB upd_same hpf h5)⟩⟩
      · revert h
        generalize mFor (fun s1 => Res.ok xs s1) p f ⟨s.env.set i (.bw xs), s.t⟩ = r
        intro h
        cases r with
        | stuck => exact h.elim
        | exc c s' => exact h.elim
        | ok o s' =>
          cases o with
          | nx =>
            intro σ' F' H' g' e
            simp only at h
            cases q2 : s'.env[i]? with
            | none => rw [q2] at h; exact h.elim
            | some y =>
              rw [q2] at h
              cases y with
              | bw ys => exact h σ' F' H' (g.back h2 h3 h5 e ⟨ys, q2⟩ g') e
              | _ => exact h.elim
          | _ => exact h.elim
    | _ => exact h.elim
open PySem.Spec PyProof.Rows in
theorem ds_forB {x : Str} {tg : Expr} {g : TG} {is : List Nat} {fg : D → M T Unit} {t : TS} {f : M T Out} {body : List Stmt} {pos pos' : Pos} (i : Nat) (q : Cur X C W k cls K) (hp : PassesOwn (model X.prog X.w) X.A X.env X.xe) (hv : PE X (.Name x pos') (tVar i)) (hg : DG X C tg g is fg) (hb : DSs X C W body t f)
    (hs : ∀ y, foldedSetIterable (.Name x pos') X.env y = pure y := by intro _; rfl) : DS X C W (.For tg (.Name x pos') body [] pos) (tFor (iSeq K (tVar i)) g t) (mForB i fg f) := ⟨by rw [← q.hX]; exact ps_for hp q.calm (pi_seq hv) hg.pe hb.pe hs, by rw [← q.hK]; exact sb_forB hg.sv hb.sv⟩
end
/-! evaluation -/
section
variable {T : Type}
def fForB (i : Nat) (xs : List D) (r : Res T Out) : Res T Out := match r with
  | .ok .nx s' => (match s'.env[i]? with
    | some (.bw _) => .ok .nx ⟨s'.env.set i (.ol xs), s'.t⟩
    | _ => .stuck)
  | _ => .stuck
theorem e_forB {i : Nat} {p : D → M T Unit} {fb : M T Out} {e e' : List Slot} {t t' : T} {xs ys : List D} (h : e[i]? = some (.ol xs)) (h2 : mForL (fun d => mBind (mBlk (p d)) fun _ => fb) xs ⟨e.set i (.bw xs), t⟩ = .ok .nx ⟨e', t'⟩) (h3 : e'[i]? = some (.bw ys)) : mForB i p fb ⟨e, t⟩ = .ok .nx ⟨e'.set i (.ol xs), t'⟩ := by
  unfold mForB
  simp only [h]
  have : mFor (fun s1 => Res.ok xs s1) p fb ⟨e.set i (.bw xs), t⟩ = mForL (fun d => mBind (mBlk (p d)) fun _ => fb) xs ⟨e.set i (.bw xs), t⟩ := rfl
  rw [this, h2]
  simp only [h3]
end
end Pm

set_option Elab.async false
set_option linter.all false
set_option maxRecDepth 100000
/-! zip of a tuple and a list. -/
namespace Pm
open PySem PySem.Spec PyProof.Rows L2 RZ
/-- the tuple at a and the list at b -/
def ItzM (K : PySem.W.Frag) (a b : Addr) : It :=
  ⟨fun i H => ∃ (xs ys : List V) (x y : V), SqT K H a xs ∧ SqL K H b ys ∧ xs[i]? = some x ∧ ys[i]? = some y,
    fun i H v H' => ∃ p x y, v = .ref p ∧ H p = none ∧ H' = upd H p (.tup [x, y]) ∧ (∀ xs, SqT K H a xs → xs[i]? = some x) ∧ ∀ ys, SqL K H b ys → ys[i]? = some y,
    fun i H => ∃ xs ys : List V, SqT K H a xs ∧ SqL K H b ys ∧ i = min xs.length ys.length⟩
theorem walk_zipM {K : PySem.W.Frag} {a b : Addr} {xs ys : List V} {n : Nat} (hn : n = min xs.length ys.length) : Walk (ItzM K a b) n (fun H => SqT K H a xs ∧ SqL K H b ys) (YPair (fun i => xs[i]?) (fun i => ys[i]?)) := by
  subst hn
  refine ⟨fun i _ hi q => ?_, fun _ q => ⟨xs, ys, q.1, q.2, rfl⟩, fun i H v H' _ q y => ?_⟩
  · have h1 : i < xs.length := by omega
    have h2 : i < ys.length := by omega
    exact ⟨xs, ys, xs[i], ys[i], q.1, q.2, by simp [h1], by simp [h2]⟩
  · obtain ⟨p, x, z, h1, h2, h3, h4, h5⟩ := y
    exact ⟨p, x, z, h1, h2, h3, h4 xs q.1, h5 ys q.2⟩
def StM (z t0 o0 i1 i2 a b : Addr) (i : Nat) (h : Heap) : Prop := IsZip h z t0 o0 .none ∧ PySem.IsPair h t0 (.ref i1) (.ref i2) ∧ (∃ x y, PySem.IsPair h o0 x y) ∧ h.IsTupleIter i1 a i ∧ h.IsListIter i2 b i
theorem sepM {z t0 o0 i1 i2 a b : Addr} (D : ZipApart z t0 o0 i1 i2 a b) : ZipSep2 z t0 o0 i1 i2 [i1, a] [i2, b] where
  TIz := D.TIz
  TOz := D.TOz
  TITO := D.TITO
  TIi1 := D.TIi1
  mem1 := by simp
  zf1 := by simp; exact ⟨D.i1z.symm, D.l1z.symm⟩
  Tf1 := by simp; exact ⟨D.TOi1, D.l1TO.symm⟩
  TIi2 := D.TIi2
  mem2 := by simp
  zf2 := by simp; exact ⟨D.i2z.symm, D.l2z.symm⟩
  Tf2 := by simp; exact ⟨D.TOi2, D.l2TO.symm⟩
  sep1_2 := by simp; exact ⟨D.i12, D.l2i1.symm⟩
  sep2_1 := by simp; exact ⟨D.i12.symm, D.l1i2.symm⟩
theorem five {z t0 o0 i1 i2 c : Addr} (h : c ∈ [z, t0, o0, i1, i2]) : c = z ∨ c = t0 ∨ c = o0 ∨ c = i1 ∨ c = i2 := by simpa using h
theorem turn_zipM {P : Program} {w : World} {K : PySem.W.Frag} {elts : List Expr} {kk : Nat} {tpos : Pos} {a b z t0 o0 i1 i2 : Addr} (D : ZipApart z t0 o0 i1 i2 a b) : Turn P w K (.Tuple elts kk tpos) (ItzM K a b) [z, t0, o0, i1, i2] z (StM z t0 o0 i1 i2 a b) := by
  have lt5 : ∀ {i : Nat} {h : Heap} {c : Addr}, StM z t0 o0 i1 i2 a b i h → c ∈ [z, t0, o0, i1, i2] → ∃ o, h.get? c = some o ∧ ∀ v, o.data ≠ .cell v := fun {i h c} st hc => by
    obtain ⟨hz, hT, ⟨x, y, hO⟩, ⟨o1, e1, _, d1⟩, ⟨o2, e2, _, d2⟩⟩ := st
    rcases five hc with q | q | q | q | q
    · rw [q]; exact ⟨_, hz, fun v q => nomatch q⟩
    · rw [q]; exact ⟨_, hT, fun v q => nomatch q⟩
    · rw [q]; exact ⟨_, hO, fun v q => nomatch q⟩
    · rw [q]; exact ⟨o1, e1, fun v q => by rw [d1] at q; cases q⟩
    · rw [q]; exact ⟨o2, e2, fun v q => by rw [d2] at q; cases q⟩
  refine { mem := by simp, obj := fun i h st c hc => lt5 st hc, keep := fun i h h' st k => ?_, item := ?_, done := ?_, self := fun A i s Q E st h => wpAny_pyIter_zip st.1 h }
  · obtain ⟨hz, hT, ⟨x, y, hO⟩, h1, h2⟩ := st
    exact ⟨k z (by simp) _ hz, k t0 (by simp) _ hT, ⟨x, y, k o0 (by simp) _ hO⟩, h1.at fun o q => k i1 (by simp) o q, h2.at fun o q => k i2 (by simp) o q⟩
  · intro X hP hw hK hc i pins s σ H E I hf st hg
    subst hP hw hK
    have st0 := st
    obtain ⟨hz, hT, ⟨x0, y0, hO⟩, h1, h2⟩ := st
    obtain ⟨xs, ys, x, y, hqx, hqy, hx, hy⟩ := hg
    obtain ⟨its, rv, p, _⟩ := I.tuple hqx
    obtain ⟨its2, rv2, p2, _⟩ := I.list hqy
    obtain ⟨u, hu, ru⟩ := rv.get hx
    obtain ⟨u2, hu2, ru2⟩ := rv2.get hy
    have hh : X.A.in1.handled = none := I.ok.hd hc
    have l1 : i < its.toArray.size := by
      rcases Nat.lt_or_ge i its.toArray.size with q | q
      · exact q
      · rw [List.getElem?_eq_none (by simpa using q)] at hu; cases hu
    have l2 : i < its2.toArray.size := by
      rcases Nat.lt_or_ge i its2.toArray.size with q | q
      · exact q
      · rw [List.getElem?_eq_none (by simpa using q)] at hu2; cases hu2
    have hzl : z < s.heap.objs.size := Heap.lt_size hz
    refine wpAny_pyNext_zipD2_item (sepM D) (Draws.tuple (prog := X.prog) (w := X.w) hh i1 a D.l1i1 its.toArray) (Draws.list (prog := X.prog) (w := X.w) hh i2 b D.l2i2 its2.toArray) hz hT hO ⟨h1, p⟩ ⟨h2, p2.isList⟩ l1 l2 fun v1 v2 h' tk e1 e2 z' O' s1 s2 hN hsz hk => ?_
    have ev1 : v1 = u := by
      have : its.toArray[i]? = some u := by simpa using hu
      rw [this] at e1; cases e1; rfl
    have ev2 : v2 = u2 := by
      have : its2.toArray[i]? = some u2 := by simpa using hu2
      rw [this] at e2; cases e2; rfl
    subst ev1 ev2
    refine ⟨_, rfl, wpAny_letOwnedTupleGo_zip (s := { s with heap := h', toks := tk }) z' fun h'' z'' sb => ?_⟩
    have hN2 : h''.get? s.heap.objs.size = some { cls := .type "tuple", data := .seq #[v1, v2] } := (sb.2 _ (Nat.ne_of_gt hzl)).trans hN
    have new : ObjOk X.prog X.w (upd H s.heap.objs.size (.tup [x, y])) h'' s.heap.objs.size (.tup [x, y]) := ⟨by show 2 ≤ sizeLine; decide, [v1, v2], .cons ru (.cons ru2 .nil), ⟨_, hN2, rfl, _, rfl⟩⟩
    have I1 : Inv X pins σ (upd H s.heap.objs.size (.tup [x, y])) { s with heap := h'', toks := tk } :=
      I.turnedNew (t' := tk) (ch := [z, t0, o0, i1, i2]) (fun c o hb q => (sb.2 c (fun q' => hb (by simp [q']))).trans (hk c o (fun q' => hb (by simp [q'])) (fun q' => hb (by simp [q'])) (fun q' => hb (by simp [q'])) (fun q' => hb (by simp [q'])) q)) hf (Nat.le_refl _) new
    refine ⟨.ref s.heap.objs.size, _, I1, rfl, ⟨_, x, y, rfl, I.hok.fresh (Nat.le_refl _), rfl, fun l hl => by rw [I.tuple_inj hl hqx]; exact hx, fun l hl => by rw [I.list_inj hl hqy]; exact hy⟩, ⟨z'', ?_, ⟨v1, v2, ?_⟩, ?_, ?_⟩, fun c hcm => ?_⟩
    · exact (sb.2 _ D.TIz).trans (hk _ _ D.TIz D.TITO D.TIi1 D.TIi2 hT)
    · exact (sb.2 _ D.TOz).trans O'
    · exact s1.1.at fun o q => (sb.2 _ D.i1z).trans q
    · exact s2.1.at fun o q => (sb.2 _ D.i2z).trans q
    · obtain ⟨o, ho, _⟩ := lt5 st0 hcm
      rw [upd_ne (Nat.ne_of_lt (Heap.lt_size ho))]
      exact (hf c hcm).1
  · intro X hP hw hK hc i pins s σ H E I hf st hg
    subst hP hw hK
    obtain ⟨hz, hT, ⟨x0, y0, hO⟩, h1, h2⟩ := st
    obtain ⟨xs, ys, hqx, hqy, hend⟩ := hg
    obtain ⟨its, rv, p, _⟩ := I.tuple hqx
    obtain ⟨its2, rv2, p2, _⟩ := I.list hqy
    have l1 := rv.length
    have l2 := rv2.length
    have hh : X.A.in1.handled = none := I.ok.hd hc
    exact wpAny_pyNext_zipD2_end (sepM D) (Draws.tuple (prog := X.prog) (w := X.w) hh i1 a D.l1i1 its.toArray) (Draws.list (prog := X.prog) (w := X.w) hh i2 b D.l2i2 its2.toArray) hz hT hO ⟨h1, p⟩ ⟨h2, p2.isList⟩ (by simp; omega) (by simp; omega) (by simp; omega) fun h' tk hk =>
      ⟨rfl, I.turnedL (t' := tk) (ch := [z, t0, o0, i1, i2]) (fun c o hb q => hk c o (fun q' => hb (by simp [q'])) (fun q' => hb (by simp [q'])) (fun q' => hb (by simp [q'])) (fun q' => hb (by simp [q'])) q) hf⟩
def iZipM (K : PySem.W.Frag) (ta : TA) : TI := fun σ H R => ta σ H fun vs H1 => ∃ a b xs ys, vs = [.ref a, .ref b] ∧ SqT K H1 a xs ∧ SqL K H1 b ys ∧ R (ItzM K a b) H1
theorem pi_zipM {X : Cx} {e e2 : Expr} {ta : TA} {p pos tpos : Pos} {elts : List Expr} {kk : Nat} (hg : Gl X "zip") (hm : X.mg "zip" = none) (ha : PA X [e, e2] ta)
    (hs : starEach [e, e2] X.env = (false, eval e X.env) :: starEach [e2] X.env := by rfl) (hpl : (backTo pos (starEach [e2] X.env)).any (·.1) = false := by rfl) :
    PI X (.Tuple elts kk tpos) (.Call (.Name "zip" p) [e, e2] [] pos) (iZipM X.K ta) := by
  refine ⟨fun pins s σ H R I h => ?_⟩
  refine Call_ (ld_blt I hg hm PyProof.Rows.boot_zip (PyProof.Rows.callWith_type1 (thn (ha.run pos pins s σ H _ I h) fun us s1 ⟨vs, H1, I1, r1, q1⟩ => ?_) hs hpl))
  obtain ⟨a, b, xs, ys, ex, hqx, hqy, q⟩ := q1
  subst ex
  cases r1 with
  | cons r rr =>
    cases rr with
    | cons r' rr =>
      cases rr
      cases r
      cases r'
      obtain ⟨its, rv, p1, _⟩ := I1.tuple hqx
      obtain ⟨its2, rv2, p2, _⟩ := I1.list hqy
      obtain ⟨o1, ho1, _⟩ := id p1
      refine zip_begins2 (begins_tuple a its.toArray) (begins_list b its2.toArray) p1 p2.isList fun h' hz hT hO g1 g2 hsz hk => wpAny_pyIter_zip hz ?_
      have I2 : Inv X pins σ H1 { s1 with heap := h' } := I1.kept (t' := s1.toks) hk
      refine ⟨s1.heap.objs.size + 4, [s1.heap.objs.size + 4, s1.heap.objs.size + 2, s1.heap.objs.size + 3, s1.heap.objs.size, s1.heap.objs.size + 1], _, _, H1, rfl, I2, turn_zipM (PySem.W.ktu_apart s1.heap.objs.size a b (Heap.lt_size ho1) p2.lt), ⟨hz, hT, ⟨_, _, hO⟩, ⟨_, g1, rfl, rfl⟩, ⟨_, g2, rfl, rfl⟩⟩, fun c hcm => ?_, q⟩
      have hle : s1.heap.objs.size ≤ c := by
        rcases five hcm with y | y | y | y | y
        · rw [y]; exact Nat.le_add_right _ _
        · rw [y]; exact Nat.le_add_right _ _
        · rw [y]; exact Nat.le_add_right _ _
        · rw [y]; exact Nat.le_refl _
        · rw [y]; exact Nat.le_add_right _ _
      exact I1.fpOk hle (I1.hok.fresh hle)
def mZipM {T : Type} (fa fb : M T D) : M T (List D) := mBind fa fun a => mBind fb fun b => mLift (match a, b with
  | .tuple xs, .list ys => some (zipD xs ys)
  | _, _ => none)
section
variable {T : Type} {C : Ct T} {W : WX} {X : Cx} {k : Nat} {cls : Nat → Addr} {K : PySem.W.Frag} {a b : Expr}
theorem si_zipM {ta tb : TE} {fa fb : M T D} (ha : Sv C W ta fa) (hb : Sv C W tb fb) : Si C W (iZipM C.K (tCons ta (tCons tb tNil))) (mZipM fa fb) := by
  intro F0 H0 L s σ F H R g h
  refine ha _ _ _ _ _ _ _ _ g (po_imp (po_bind h) fun a s1 F1 H1 g1 e1 h1 v rv => ?_)
  refine hb _ _ _ _ _ _ _ _ g1 (po_imp (po_bind h1) fun b s2 F2 H2 g2 e2 h2 w rw' => ?_)
  obtain ⟨items, q, h2⟩ := po_lift h2
  have h3 := po_ret h2 g2
  have rv := rv.mono e2
  cases rv with
  | tup hx rx =>
    cases rw' with
    | lst hy ry =>
      cases q
      refine ⟨_, _, _, _, rfl, g2.sub.tup hx, SqL.of (g2.sub.lst hy), h3 _ ⟨_, _, walk_zipM (by rw [zipD_length, rx.length, ry.length]), fun F' H' e u _ => ⟨u.tup (sqT_mono e hx), SqL.of (u.lst (e _ _ hy))⟩, fun i x F' H' H3 d e u hd y => y_zip rx ry e hd y⟩⟩
    | _ => cases q
  | _ => cases q
theorem di_zipM {te tb : TE} {fa fb : M T D} {p pos tpos : Pos} {elts : List Expr} {kk : Nat} (q : Cur X C W k cls K) (hm : X.mg "zip" = none) (ha : DV X C W a te fa) (hb : DV X C W b tb fb) (hg : Gl X "zip" := by rfl) (hs : starEach [a, b] X.env = (false, eval a X.env) :: starEach [b] X.env := by rfl) (hs2 : starEach [b] X.env = (false, eval b X.env) :: starEach [] X.env := by rfl) (hpl : (backTo pos (starEach [b] X.env)).any (·.1) = false := by rfl) :
    DI X C W (.Tuple elts kk tpos) (.Call (.Name "zip" p) [a, b] [] pos) (iZipM K (tCons te (tCons tb tNil))) (mZipM fa fb) := ⟨by rw [← q.hX]; exact pi_zipM hg hm (pa_cons ha.pe (pa_cons hb.pe pa_nil hs2) hs) hs hpl, by rw [← q.hK]; exact si_zipM ha.sv hb.sv⟩
end
section
variable {T : Type}
def fZipM2 (a : D) (r : Res T D) : Res T (List D) := match r with
  | .ok b s => (match a, b with
    | .tuple xs, .list ys => .ok (zipD xs ys) s
    | _, _ => .stuck)
  | .exc c s => .exc c s
  | .stuck => .stuck
def fZipM1 (fb : M T D) (r : Res T D) : Res T (List D) := match r with
  | .ok a s => fZipM2 a (fb s)
  | .exc c s => .exc c s
  | .stuck => .stuck
theorem fZipM1_ok (fb : M T D) (a : D) (s : S T) : fZipM1 fb (.ok a s) = fZipM2 a (fb s) := rfl
theorem fZipM2_ok (xs ys : List D) (s : S T) : fZipM2 (.tuple xs) (.ok (.list ys) s) = .ok (zipD xs ys) s := rfl
theorem e_zipM (fa fb : M T D) (s : S T) : mZipM fa fb s = fZipM1 fb (fa s) := by
  unfold mZipM mBind
  cases fa s with
  | exc c s => rfl
  | stuck => rfl
  | ok a s1 =>
    dsimp only [fZipM1]
    cases fb s1 with
    | exc c s => rfl
    | stuck => rfl
    | ok b s2 =>
      unfold fZipM2 mLift
      cases a <;> cases b <;> rfl
end
end Pm

set_option Elab.async false
set_option linter.all false
set_option maxRecDepth 100000
/-! A slice of a tuple that may be the whole of it. -/
namespace Pm
open PySem L2 RZ
theorem cut_whole {xs : List D} {lo hi : Option Int} (h : HT.sIx xs.length 0 lo = 0 ∧ HT.sIx xs.length xs.length hi = xs.length) : cutD xs lo hi = xs := by
  unfold cutD
  rw [h.1, h.2, List.drop_zero, Nat.sub_zero, List.take_length]
def opSlW (x : D) (lo hi : Option Int) : Option D := match x with
  | .tuple xs => some (.tuple (cutD xs lo hi))
  | _ => opSl x lo hi
abbrev rSlW (K : PySem.W.Frag) : V → Option Int → Option Int → Hp → VK → Prop := fun x lo hi H Q => rSlL K x lo hi H Q ∨ L2.rSlA K x lo hi H Q ∨ rSlS x lo hi H Q
theorem sl_W {X : Cx} : SlR X (rSlW X.K) := SlR.or sl_list (SlR.or L2.sl_tupA sl_str)
def mSlW {T : Type} (fa : M T D) (fl fh : M T (Option Int)) : M T D := mBind fa fun a => mBind fl fun l => mBind fh fun h => mLift (opSlW a l h)
section
variable {T : Type} {C : Ct T} {W : WX} {X : Cx} {k : Nat} {cls : Nat → Addr} {K : PySem.W.Frag} {a : Expr}
theorem sv_slW {ta : TE} {tl th : TO} {fa : M T D} {fl fh : M T (Option Int)} (ha : Sv C W ta fa) (hl : So C W tl fl) (hh : So C W th fh) : Sv C W (tSl (rSlW C.K) ta tl th) (mSlW fa fl fh) := by
  intro F0 H0 L s σ F H Q g h
  refine ha _ _ _ _ _ _ _ _ g (po_imp (po_bind h) fun a s1 F1 H1 g1 e1 h1 v rv => ?_)
  refine hl _ _ _ _ _ _ _ _ g1 (po_imp (po_bind h1) fun lo s2 F2 H2 g2 e2 h2 => ?_)
  refine hh _ _ _ _ _ _ _ _ g2 (po_imp (po_bind h2) fun hi s3 F3 H3 g3 e3 h3 => ?_)
  obtain ⟨d, q, h4⟩ := po_lift h3
  have rv := (rv.mono e2).mono e3
  cases rv with
  | lst hx r =>
    cases q
    rename_i p xs ds
    refine .inl ⟨p, xs, rfl, SqL.of (g3.sub.lst hx), fun l hl => ?_⟩
    have e1 := Same.updN (o := HO.lst (cutV xs lo hi)) (g3.sub.nn hl)
    exact h4 _ _ (g3.allocF hl) e1 _ (.lst upd_same ((cut_rep r lo hi).mono e1))
  | tup hx r =>
    rename_i p xs ds
    cases q
    refine .inr (.inl ⟨p, xs, rfl, g3.sub.tup hx, fun hw => ?_, fun hw l hl => ?_⟩)
    · have hw' : HT.sIx ds.length 0 lo = 0 ∧ HT.sIx ds.length ds.length hi = ds.length := by rw [← r.length]; exact hw
      rw [cut_whole hw'] at h4
      exact h4 _ _ g3 (Same.refl _) _ (.tup hx r)
    · have e1 := Same.updN (o := HO.tup (cutV xs lo hi)) (g3.sub.nn hl)
      exact h4 _ _ (g3.allocF hl) e1 _ (.tup (.inl (.inl upd_same)) ((cut_rep r lo hi).mono e1))
  | str z =>
    dsimp only [opSlW, opSl] at q
    by_cases hw : z.length ≤ lim
    · rw [if_pos hw] at q; cases q
      exact .inr (.inr ⟨z, rfl, lim_ok hw, h4 _ _ g3 (Same.refl _) _ (.str _)⟩)
    · rw [if_neg hw] at q; cases q
  | _ => cases q
theorem dv_slW {bb : Bool} {te : TE} {fa : M T D} {pos : Pos} (q : CurB bb X C W k cls K) {lo hi : Option Expr} {tl th : TO} {fl fh : M T (Option Int)} {p2 : Pos} (ha : DV X C W a te fa) (hl : DO X C W lo tl fl) (hh : DO X C W hi th fh) : DV X C W (.Subscript a (.Slice lo hi none p2) pos) (tSl (rSlW K) te tl th) (mSlW fa fl fh) :=
  ⟨by rw [← q.hX]; exact pe_slice sl_W ha.pe hl.pe hh.pe, by rw [← q.hK]; exact sv_slW ha.sv hl.sv hh.sv⟩
end
end Pm

set_option Elab.async false
set_option linter.all false
set_option maxRecDepth 100000
/-! sorted of tuples; an own list lent to an expression. -/
namespace Pm
open PySem PySem.Spec PyProof.Rows L2 RZ
abbrev rSortT (K : PySem.W.Frag) : List V → Hp → VK → Prop := fun vs H Q => ∃ (a : Addr) (zs : List (V × D)), vs = [.ref a] ∧ SqL K H a (zs.map Prod.fst) ∧ (∀ z ∈ zs, Dp K H z.1 z.2 ∧ z.2.depth ≤ 60) ∧ PySem.W.AllAlike (zs.map Prod.snd) ∧ PySem.W.Sortable (zs.map Prod.snd) ∧ zs.length ≤ 1000000 ∧
  ∀ p, H p = none → Q (.ref p) (upd H p (.lst ((zs.mergeSort (PySem.W.dataLe false Prod.snd)).map Prod.fst)))
theorem cr_sortT {X : Cx} (hu : X.A.units + 64 < cLine) : CallR X (.builtin "sorted") (rSortT X.K) := by
  intro pins s σ H vs us Q I r h
  obtain ⟨a, zs, rfl, hS, hd, hal, hso, hlen, q⟩ := h
  obtain ⟨its, rv, pl, hz⟩ := I.list hS
  obtain ⟨u, rfl, ru⟩ := vals1 r
  obtain rfl : u = Value.ref a := ru
  have hE : PySem.W.EachIs (fun (v : Value) (b : V × D) => L2.RelV b.1 v) its zs := by
    clear hd hal hso hlen q hS hz pl
    induction zs generalizing its with
    | nil => cases rv; exact .nil
    | cons b bs ih =>
      cases rv with
      | cons r1 r2 => exact .cons r1 (ih _ r2)
  have hR : PySem.W.EachIs (fun (v : Value) (b : V × D) => ∃ as, Reads s.heap v b.2 as) its zs := (PySem.W.each_mem hE).mono fun v b ⟨h1, h2⟩ => Dp.reads I b.2 b.1 v (hd b h2).1 h1
  refine PySem.W.sorted_data (R := fun (v : Value) (b : V × D) => L2.RelV b.1 v) (enc := Prod.snd) pl.isList hE hR hal hso (by rw [sizeLine_eq]; omega) (fun b hb => ?_) fun out hl eo => ?_
  · have := (hd b hb).2
    omega
  · have rv2 : Vals ((zs.mergeSort (PySem.W.dataLe false Prod.snd)).map Prod.fst) out := by
      clear hl
      generalize zs.mergeSort (PySem.W.dataLe false Prod.snd) = cs at eo
      induction eo with
      | nil => exact .nil
      | cons r1 _ ih => exact .cons r1 ih
    have hlo : out.length ≤ sizeLine := by rw [hl, sizeLine_eq]; omega
    obtain ⟨e, he⟩ := PyProof.Rows.sortedAll_at s.heap its (List.toArray out)
    refine ⟨.ref (s.heap.objs.size + 1), _, I.laid (t' := s.toks) (a := s.heap.objs.size + 1) (fun b o hb => PyProof.Rows.sortedAll_old hb) (Nat.le_succ _) (show ObjOk X.prog X.w _ _ _ (.lst ((zs.mergeSort (PySem.W.dataLe false Prod.snd)).map Prod.fst)) from ⟨by rw [rv2.length]; exact hlo, out, e, rv2, he⟩), rfl, q _ (I.hok.fresh (Nat.le_succ _))⟩
def tup1 : D → Bool
  | .tuple (_ :: _) => true
  | _ => false
def okSortT (ds : List D) : Bool := decide (ds.length ≤ 1000000) && ds.all fun d => d.canLay0 && tup1 d && decide (d.depth ≤ 60) && ds.all fun e => PySem.W.alike d e
def opSortT : D → Option D
  | .list ds => if okSortT ds = true then some (.list (ds.mergeSort (PySem.W.dataLe false id))) else none
  | _ => none
theorem RepL.duo {K : PySem.W.Frag} {F : Hp} : ∀ {xs : List V} {ds : List D}, RepL K F xs ds → ∃ zs : List (V × D), zs.map Prod.fst = xs ∧ zs.map Prod.snd = ds ∧ ∀ z ∈ zs, Rep K F z.1 z.2
  | _, _, .nil => ⟨[], rfl, rfl, fun z hz => by cases hz⟩
  | _, _, .cons (v := v) (d := d) h r => by
    obtain ⟨zs, h1, h2, h3⟩ := RepL.duo r
    refine ⟨(v, d) :: zs, by rw [List.map_cons, h1], by rw [List.map_cons, h2], fun z hz => ?_⟩
    rcases List.mem_cons.mp hz with e | e
    · rw [e]; exact h
    · exact h3 z e
section
variable {T : Type} {C : Ct T} {W : WX} {X : Cx} {k : Nat} {cls : Nat → Addr} {K : PySem.W.Frag} {a : Expr} {p pos : Pos} {ta : TE} {fa : M T D}
theorem ru_sortT : Ru C (fun x => rSortT C.K [x]) opSortT := by
  intro F0 H0 L s σ F H x d Q g rx h
  cases rx with
  | lst hx r =>
    rename_i p xs ds
    dsimp only [opSortT] at h
    by_cases ok : okSortT ds = true
    · rw [if_pos ok] at h
      obtain ⟨zs, e1, e2, e3⟩ := RepL.duo r
      unfold okSortT at ok
      rw [Bool.and_eq_true] at ok
      have all := List.all_eq_true.mp ok.2
      have at2 : ∀ d ∈ ds, d.canLay0 = true ∧ tup1 d = true ∧ d.depth ≤ 60 ∧ ∀ e ∈ ds, PySem.W.alike d e = true := fun d hd => by
        have := all d hd
        rw [Bool.and_eq_true, Bool.and_eq_true, Bool.and_eq_true] at this
        exact ⟨this.1.1.1, this.1.1.2, of_decide_eq_true this.1.2, fun e he => List.all_eq_true.mp this.2 e he⟩
      have mem2 : ∀ z ∈ zs, z.2 ∈ ds := fun z hz => by rw [← e2]; exact List.mem_map.mpr ⟨z, hz, rfl⟩
      refine ⟨p, zs, rfl, by rw [e1]; exact SqL.of (g.sub.lst hx), fun z hz => ⟨Rep.dp g.sub (e3 z hz) (at2 _ (mem2 z hz)).1, (at2 _ (mem2 z hz)).2.2.1⟩, ?_, ?_, ?_, fun l hl => ?_⟩
      · rw [e2]
        exact fun d hd d' hd' => (at2 d hd).2.2.2 d' hd'
      · rw [e2]
        refine .inl fun d hd => ?_
        have := (at2 d hd).2.1
        unfold tup1 at this
        split at this
        · exact ⟨_, _, rfl⟩
        · cases this
      · have : zs.length = ds.length := by rw [← e2, List.length_map]
        rw [this]
        exact of_decide_eq_true ok.1
      · have e4 := Same.updN (o := HO.lst ((zs.mergeSort (PySem.W.dataLe false Prod.snd)).map Prod.fst)) (g.sub.nn hl)
        have em : (zs.mergeSort (PySem.W.dataLe false Prod.snd)).map Prod.snd = ds.mergeSort (PySem.W.dataLe false id) := by
          rw [← e2]
          exact List.map_mergeSort (fun x _ y _ => rfl)
        refine h _ _ _ (g.allocF hl) e4 (.lst upd_same ?_)
        rw [← em]
        exact RepL.maps fun z hz => (e3 z ((List.mergeSort_perm _ _).subset hz)).mono e4
    · rw [if_neg ok] at h; exact h.elim
  | _ => exact h.elim
theorem dv_sortT {bb : Bool} (q : CurB bb X C W k cls K) (hm : X.mg "sorted" = none) (ha : DV X C W a ta fa) (hg : Gl X "sorted" := by rfl) (he : starEach [a] X.env = (false, eval a X.env) :: starEach [] X.env := by rfl) : DV X C W (.Call (.Name "sorted" p) [a] [] pos) (tCB (rSortT K) (tCons ta tNil)) (mUn opSortT fa) :=
  ⟨by rw [← q.hX]; exact pe_callB (cr_sortT q.un) hg hm PyProof.Rows.boot_sorted (pa_cons ha.pe pa_nil he) (by decide) (by decide) he (by rfl), by rw [← q.hK]; exact sv_cb1 ha.sv ru_sortT⟩
end
/-! ### an own list lent to an expression -/
def mLend {T α : Type} (i : Nat) (f : M T α) : M T α := fun s => match s.env[i]? with
  | some (.ol xs) => (match f ⟨s.env.set i (.bw xs), s.t⟩ with
    | .ok a s' => (match s'.env[i]? with
      | some (.bw _) => .ok a ⟨s'.env.set i (.ol xs), s'.t⟩
      | _ => .stuck)
    | _ => .stuck)
  | _ => .stuck
def mIterB {T : Type} (i : Nat) : M T (List D) := fun s => match s.env[i]? with
  | some (.bw xs) => .ok xs s
  | _ => .stuck
section
variable {T : Type} {C : Ct T} {W : WX} {X : Cx} {k : Nat} {cls : Nat → Addr} {K : PySem.W.Frag} {e : Expr}
theorem sv_lend {i : Nat} {t : TE} {f : M T D} (h : Sv C W t f) : Sv C W t (mLend i f) := by
  intro F0 H0 L s σ F H Q g k
  unfold mLend at k
  cases q : s.env[i]? with
  | none => rw [q] at k; exact k.elim
  | some x =>
    rw [q] at k
    cases x with
    | ol xs =>
      simp only at k
      obtain ⟨a, vs, h1, h2, h3, h4, h5⟩ := g.slots i _ q
      have g1 := g.lend q h1 h2 h3 h4 h5
      refine h _ _ _ _ _ _ _ _ g1 ?_
      revert k
      generalize f ⟨s.env.set i (.bw xs), s.t⟩ = r
      intro k
      cases r with
      | stuck => exact k.elim
      | exc c s' => exact k.elim
      | ok d s' =>
        intro F' H' g' e'
        simp only at k
        cases q2 : s'.env[i]? with
        | none => rw [q2] at k; exact k.elim
        | some y =>
          rw [q2] at k
          cases y with
          | bw ys => exact k F' H' (g.back h2 h3 h5 e' ⟨ys, q2⟩ g') e'
          | _ => exact k.elim
    | _ => exact k.elim
theorem dv_lend (i : Nat) {t : TE} {f : M T D} (h : DV X C W e t f) : DV X C W e t (mLend i f) := ⟨h.pe, sv_lend h.sv⟩
theorem si_iterB {i : Nat} : Si C W (iSeq C.K (tVar i)) (mIterB i) := by
  intro F0 H0 L s σ F H R g h
  unfold mIterB at h
  cases q : s.env[i]? with
  | none => rw [q] at h; exact h.elim
  | some x =>
    rw [q] at h
    cases x with
    | bw xs =>
      obtain ⟨a, vs, h1, h2, h3, h4, h5⟩ := g.slots i _ q
      exact ⟨_, h2, .inl ⟨a, rfl, ⟨vs, SqL.of (g.base _ _ h4 h3)⟩, h F H g (Same.refl F) _ (it_listB h4 h3 h5)⟩⟩
    | _ => exact h.elim
theorem di_iterB {x : Str} {tg : Expr} {pos' : Pos} {bb : Bool} (i : Nat) (q : CurB bb X C W k cls K) (hv : PE X (.Name x pos') (tVar i)) : DI X C W tg (.Name x pos') (iSeq K (tVar i)) (mIterB i) := ⟨by rw [← q.hX]; exact pi_seq hv, by rw [← q.hK]; exact si_iterB⟩
end
section
variable {T : Type}
theorem e_iterB {i : Nat} {e : List Slot} {t : T} {xs : List D} (h : e[i]? = some (.bw xs)) : (mIterB i : M T (List D)) ⟨e, t⟩ = .ok xs ⟨e, t⟩ := by
  unfold mIterB
  simp only [h]
theorem e_lend {α : Type} {i : Nat} {f : M T α} {e e' : List Slot} {t t' : T} {xs ys : List D} {a : α} (h : e[i]? = some (.ol xs)) (h2 : f ⟨e.set i (.bw xs), t⟩ = .ok a ⟨e', t'⟩) (h3 : e'[i]? = some (.bw ys)) : mLend i f ⟨e, t⟩ = .ok a ⟨e'.set i (.ol xs), t'⟩ := by
  unfold mLend
  simp only [h, h2, h3]
end
end Pm

set_option Elab.async false
set_option linter.all false
set_option maxRecDepth 100000
/-! Tuples added, empty ones too; a def that calls itself: the ground. -/
namespace Pm
open PySem L2 RZ
def opAddA : D → D → Option D
  | .tuple xs, .tuple ys => if xs.length + ys.length ≤ lim then some (.tuple (xs ++ ys)) else none
  | a, b => opAdd a b
section
variable {T : Type} {C : Ct T} {W : WX} {X : Cx} {k : Nat} {cls : Nat → Addr} {K : PySem.W.Frag} {a b : Expr} {ta tb : TE} {fa fb : M T D} {pos : Pos}
theorem rv_addA : Rv C (rOr (rAddA C.K) (L2.rCatA C.K)) opAddA := by
  intro F0 H0 L s σ F H x y a b Q g rx ry h
  have rx0 := rx
  have ry0 := ry
  cases rx with
  | tup hx r =>
    cases ry with
    | tup hy r' =>
      dsimp only [opAddA] at h
      rename_i p xs ds q ys es
      by_cases hc : ds.length + es.length ≤ lim
      · rw [if_pos hc] at h
        refine .inr ⟨p, q, xs, ys, rfl, rfl, g.sub.tup hx, g.sub.tup hy, by rw [r.length, r'.length]; exact lim_ok hc, fun e => ?_, fun _ e => ?_, fun _ _ l hl => ?_⟩
        · subst e
          cases r
          exact h _ _ _ g (Same.refl F) (.tup hy r')
        · subst e
          cases r'
          rw [List.append_nil] at h
          exact h _ _ _ g (Same.refl F) (.tup hx r)
        · have e1 := Same.updN (o := HO.tup (xs ++ ys)) (g.sub.nn hl)
          exact h _ _ _ (g.allocF hl) e1 (.tup (.inl (.inl upd_same)) ((r.append r').mono e1))
      · rw [if_neg hc] at h; exact h.elim
    | _ => exact .inl (rv_add F0 H0 L s σ F H _ _ _ _ Q g rx0 ry0 h)
  | _ => exact .inl (rv_add F0 H0 L s σ F H _ _ _ _ Q g rx0 ry0 h)
theorem dv_addA {bb : Bool} (q : CurB bb X C W k cls K) (ha : DV X C W a ta fa) (hb : DV X C W b tb fb) : DV X C W (.BinOp a .Add b pos) (tOp (rOr (rAddA K) (L2.rCatA K)) ta tb) (mOp opAddA fa fb) := ⟨by rw [← q.hX]; exact pe_op (or_add.or L2.op_catA) ha.pe hb.pe, by rw [← q.hK]; exact sv_op ha.sv hb.sv rv_addA⟩
end
section
variable {P : Program} {w : World} {K : PySem.W.Frag} {mg : Str → Option Value} {base : Heap} {cls : Nat → Addr}
/-- a def at no depth at all: it promises nothing -/
theorem okD0 {x : Str} {st : Stmt} {N ps : List Str} {k : Nat} {g : List D → Rp} (h : Std K mg x st ps) (S : FnScope N ps (defScope st)) (hg : g = fnP ps.length N.length fun _ => .stuck) : DefP P w K mg base cls x (k + 1) ps g :=
  okD h S hg fun f cdv A outer s H E hr => ⟨fun _ _ _ => False, ⟨fun _ _ _ _ _ _ h => h.elim⟩, fun _ _ _ _ _ _ _ _ _ k => k.elim⟩
end
end Pm

set_option Elab.async false
set_option linter.all false
set_option maxRecDepth 100000
/-! {k: v for ..} -/
namespace Pm
open PySem L2 RZ
def mDTurn {T : Type} (p : D → M T Unit) (ft : M T Bool) (fk fe : M T D) (d : D) : M T (Option (Key × D)) := mBlk (mBind (p d) fun _ => mBind ft fun k => match k with
  | true => mBind fk fun y => mBind fe fun x => mLift ((keyOf y).map fun k => some (k, x))
  | false => mRet none)
def putO (acc : List (D × D)) : Option (Key × D) → List (D × D)
  | some (k, x) => putD acc k x
  | none => acc
def mDcL {T : Type} (vs : List Nat) (f : D → M T (Option (Key × D))) : List D → List (D × D) → M T (List (D × D))
  | [], acc => mRet acc
  | d :: ds, acc => mBind (f d) fun o s => mDcL vs f ds (putO acc o) ⟨wipeE s.env vs, s.t⟩
def mDc {T : Type} (vs : List Nat) (fi : M T (List D)) (p : D → M T Unit) (ft : M T Bool) (fk fe : M T D) : M T Slot := mBind fi fun items s =>
  if (okW s.env vs && decide (items.length ≤ lim)) = true then
    match mDcL vs (mDTurn p ft fk fe) items [] ⟨wipeE s.env vs, s.t⟩ with
    | .ok acc s' => .ok (.od acc) ⟨restE s.env s'.env vs, s'.t⟩
    | _ => .stuck
  else .stuck
theorem putK_len (ks : List (Key × V)) (k : Key) (v : V) : (putK ks k v).length ≤ ks.length + 1 := by
  unfold putK
  split <;> simp
theorem dc_it {J : It} {n : Nat} {G : Hp → Prop} {Y : Nat → Hp → V → Hp → Prop} (w : Walk J n G Y) {g : TG} {tt : TT} {tk te : TE} {vs : List Nat} {σ : L2.St} {H1 : Hp} {D : Addr} {Qd : Hp → Prop} (Pv : Nat → Hp → Prop) (h0 : Pv 0 (upd H1 D (.dK []))) (hG : ∀ i H, i ≤ n → Pv i H → G H)
    (hs : ∀ i x H H', i < n → Pv i H → Y i H x H' → g x (wipe σ vs) H' fun σ2 H2 => wipe σ2 vs = wipe σ vs ∧ tt σ2 H2 fun b H3 =>
      if b = true then tk σ2 H3 fun y H4 => te σ2 H4 fun z H5 => ∃ kvs k, y = kV k ∧ H5 D = some (.dK kvs) ∧ kvs.length < sizeLine ∧ Pv (i + 1) (upd H5 D (.dK (putK kvs k z))) else Pv (i + 1) H3) (hd : ∀ H, Pv n H → Qd H) :
    ∃ W : Nat → Nat → Hp → Prop, (∃ m, W 0 m (upd H1 D (.dK []))) ∧ ∀ i m H, W i m H →
      (J.stop i H ∧ Qd H) ∨ (J.go i H ∧ ∃ Nx : Hp → Prop, (∀ H', Nx H' → ∃ m', m' < m ∧ W (i + 1) m' H') ∧ ∀ x H', J.yld i H x H' → g x (wipe σ vs) H' fun σ2 H2 => wipe σ2 vs = wipe σ vs ∧ tt σ2 H2 fun b H3 =>
        if b = true then tk σ2 H3 fun y H4 => te σ2 H4 fun z H5 => ∃ kvs k, y = kV k ∧ H5 D = some (.dK kvs) ∧ kvs.length < sizeLine ∧ Nx (upd H5 D (.dK (putK kvs k z))) else Nx H3) := by
  refine ⟨fun i m H => m = n - i ∧ i ≤ n ∧ Pv i H, ⟨n, by simp, Nat.zero_le _, h0⟩, ?_⟩
  rintro i m H ⟨rfl, hi, p⟩
  have q := hG i H hi p
  by_cases hlt : i < n
  · refine .inr ⟨w.goes i H hlt q, Pv (i + 1), fun H' p' => ⟨n - (i + 1), by omega, rfl, hlt, p'⟩, fun x H' y => hs i x H H' hlt p (w.yields i H x H' hlt q y)⟩
  · have e : i = n := by omega
    subst e
    exact .inl ⟨w.stops H q, hd H p⟩
section
variable {T : Type} {C : Ct T} {W : WX} {F0 H0 F F1 H : Hp} {L : Nat → Option Addr} {s : S T} {σ : L2.St} {α β : Type}
theorem se_dc_at {wi : TI} {fi : M T (List D)} {tg : TG} {is : List Nat} {p : D → M T Unit} {tt : TT} {ft : M T Bool} {tk te : TE} {fk fe : M T D} {vs : List Nat} {F0 H0 : Hp} {L : Nat → Option Addr} {s : S T} {σ : L2.St} {F H : Hp} {Q : VK}
    (hi : ∀ R : It → Hp → Prop, Po C W F0 H0 L F σ (fun items _ F' H' => ∀ J, ItOk C.K F' (Bs C H0) J items → R J H') (fi s) → wi σ H R) (hg : Sg C tg is p) (his : ∀ i ∈ is, i ∈ vs) (ht : Stt C W0 tt ft) (hk : Sv C W0 tk fk) (he : Sv C W0 te fe) (k : Po C W F0 H0 L F σ (fun x s' F' H' => ∀ v, SlotV C H0 s' σ F' H' v x → Q v H') (mDc vs fi p ft fk fe s)) : tDc wi tg tt tk te vs σ H Q := by
  refine hi _ (po_imp (po_bind k) fun items s1 F1 H1 g1 e1 k1 J it => ?_)
  by_cases hc : (okW s1.env vs && decide (items.length ≤ lim)) = true
  · rw [if_pos hc] at k1
    rw [Bool.and_eq_true] at hc
    have hlim : items.length ≤ lim := of_decide_eq_true hc.2
    cases q : mDcL vs (mDTurn p ft fk fe) items [] ⟨wipeE s1.env vs, s1.t⟩ with
    | exc c s' => rw [q] at k1; exact k1.elim
    | stuck => rw [q] at k1; exact k1.elim
    | ok fin sf =>
      rw [q] at k1
      intro Dl hD
      obtain ⟨G, Y, w, hG, hY⟩ := it.ok
      refine dc_it w (fun i H' => ∃ s' F' acc avs, Good C F0 H0 L s' (wipe σ vs) F' H' ∧ Same F1 F' ∧ Tmp C H0 s' (wipe σ vs) F' H' Dl ∧ H' Dl = some (.dK avs) ∧ RepKV C.K F' avs acc ∧ avs.length ≤ i ∧ mDcL vs (mDTurn p ft fk fe) (items.drop i) acc s' = .ok fin sf) ?_ ?_ ?_ ?_
      · exact ⟨_, F1, [], [], (g1.alloc hD).wiped vs, Same.refl _, (Tmp.fresh g1 hD).remix (wipe_mix s1.env σ vs), upd_same, .nil, Nat.zero_le _, q⟩
      · rintro i H' hi' ⟨s', F', acc, avs, g', e', _⟩
        exact hG F' H' e' g'.sub g'.base
      · rintro i x H2 H3 hi' ⟨s2, F2, acc, avs, g2, e2, t2, h2, r2, l2, k2⟩ y
        have hd : items[i]? = some items[i] := by simp [hi']
        have hdrop : items.drop i = items[i] :: items.drop (i + 1) := List.drop_eq_getElem_cons hi'
        rw [hdrop] at k2
        have f0 : F0 Dl = none := Same.free g2.ext0 t2.f
        have pf : Dl ∉ C.fp := fun z => g2.fp0 Dl z t2.h0
        have lH := g2.lH
        have g3 := g2.protect t2 h2
        obtain ⟨F3, g4, e3, r3⟩ : ∃ F3, Good C F0 (upd H0 Dl (.dK avs)) L s2 (wipe σ vs) F3 H3 ∧ Same F2 F3 ∧ Rep C.K F3 x items[i] := by
          rcases hY i x F2 H2 H3 _ e2 g3.sub hd y with ⟨rfl, r⟩ | ⟨tp, a, b, da, db, rfl, hn, rfl, ra, rb, ed⟩
          · exact ⟨F2, g3, Same.refl _, r⟩
          · have e := Same.updN (o := HO.tup [a, b]) (g3.sub.nn hn)
            rw [ed]
            exact ⟨_, g3.allocF hn, e, .tup (.inl (.inl upd_same)) (.cons (ra.mono e) (.cons (rb.mono e) .nil))⟩
        -- the turn's steps
        have k3 : ∃ s3 b s4, p items[i] s2 = .ok () s3 ∧ ft s3 = .ok b s4 ∧
            ((b = true ∧ ∃ yd s45 z s5 key, fk s4 = .ok yd s45 ∧ fe s45 = .ok z s5 ∧ keyOf yd = some key ∧ mDcL vs (mDTurn p ft fk fe) (items.drop (i + 1)) (putD acc key z) ⟨wipeE s5.env vs, s5.t⟩ = .ok fin sf) ∨ (b = false ∧ mDcL vs (mDTurn p ft fk fe) (items.drop (i + 1)) acc ⟨wipeE s4.env vs, s4.t⟩ = .ok fin sf)) := by
          simp only [mDcL, mBind, mDTurn, mBlk] at k2
          cases q1 : p items[i] s2 with
          | exc c s' => (try simp only [q1] at k2); cases k2
          | stuck => (try simp only [q1] at k2); cases k2
          | ok u s3 =>
            (try simp only [q1] at k2)
            (try dsimp only at k2)
            cases q2 : ft s3 with
            | exc c s' => (try simp only [q2] at k2); cases k2
            | stuck => (try simp only [q2] at k2); cases k2
            | ok b s4 =>
              (try simp only [q2] at k2)
              (try dsimp only at k2)
              refine ⟨s3, b, s4, rfl, q2, ?_⟩
              cases b with
              | false => exact .inr ⟨rfl, k2⟩
              | true =>
                simp only [mBind] at k2
                cases q30 : fk s4 with
                | exc c s' => (try simp only [q30] at k2); cases k2
                | stuck => (try simp only [q30] at k2); cases k2
                | ok yd s45 =>
                  (try simp only [q30] at k2)
                  (try dsimp only at k2)
                  cases q3 : fe s45 with
                  | exc c s' => (try simp only [q3] at k2); cases k2
                  | stuck => (try simp only [q3] at k2); cases k2
                  | ok z s5 =>
                    (try simp only [q3] at k2)
                    (try dsimp only at k2)
                    cases q4 : keyOf yd with
                    | none => (try simp only [q4, mLift, Option.map_none] at k2); cases k2
                    | some key =>
                      (try simp only [q4, mLift, Option.map_some] at k2)
                      exact .inl ⟨rfl, yd, s45, z, s5, key, rfl, q3, q4, k2⟩
        obtain ⟨s3, b, s4, q1, q2, q3⟩ := k3
        refine hg _ _ _ _ _ _ _ _ _ _ g4 r3 ?_
        rw [q1]
        intro σ3 g5 w5
        have w6 : wipe σ3 vs = wipe σ vs := (w5 vs his).trans wipe_wipe
        refine ⟨w6, ht _ _ _ _ _ _ _ _ g5 ?_⟩
        rw [q2]
        intro F4 H4 g6 e6
        rcases q3 with ⟨rfl, yd, s45, z, s5, key, q30, q3, q4, k4⟩ | ⟨rfl, k4⟩
        · refine iteT (hk _ _ _ _ _ _ _ _ g6 ?_)
          rw [q30]
          intro F45 H45 g67 e67 yk ryk
          refine he _ _ _ _ _ _ _ _ g67 ?_
          rw [q3]
          intro F5 H5 g7 e7 yv ry
          obtain ⟨g8, t8, h8⟩ := g7.unprotect t2.h0 f0 pf lH
          obtain ⟨eyk, _⟩ := keyOf_rep ryk q4
          refine ⟨avs, key, eyk, h8, ?_, ?_⟩
          · exact Nat.lt_of_le_of_lt l2 (Nat.lt_of_lt_of_le hi' (lim_ok hlim))
          · have g9 := g8.updTmp (o := HO.dK (putK avs key yv)) t8
            have g10 := g9.wiped vs
            rw [w6] at g10
            have t10 : Tmp C H0 ⟨wipeE s5.env vs, s5.t⟩ (wipe σ vs) F5 (upd H5 Dl (.dK (putK avs key yv))) Dl := by
              have := Tmp.remix (env' := wipeE s5.env vs) (σ' := wipe σ3 vs) ⟨t8.f, t8.h0, t8.no⟩ (wipe_mix s5.env σ3 vs) (C := C) (F := F5) (H := upd H5 Dl (.dK (putK avs key yv))) (s := s5)
              rw [w6] at this
              exact this
            exact ⟨_, F5, putD acc key z, putK avs key yv, g10, (((e2.trans e3).trans e6).trans e67).trans e7, t10, upd_same, RepKV.put ((((r2.mono e3).mono e6).mono e67).mono e7) ry, by have := putK_len avs key yv; omega, k4⟩
        · refine iteF ?_
          obtain ⟨g8, t8, h8⟩ := g6.unprotect t2.h0 f0 pf lH
          have g10 := g8.wiped vs
          rw [w6] at g10
          have t10 : Tmp C H0 ⟨wipeE s4.env vs, s4.t⟩ (wipe σ vs) F4 H4 Dl := by
            have := Tmp.remix (env' := wipeE s4.env vs) (σ' := wipe σ3 vs) t8 (wipe_mix s4.env σ3 vs)
            rw [w6] at this
            exact this
          exact ⟨_, F4, acc, avs, g10, (e2.trans e3).trans e6, t10, h8, (r2.mono e3).mono e6, by omega, k4⟩
      · rintro H2 ⟨s2, F2, acc, avs, g2, e2, t2, h2, r2, l2, k2⟩
        rw [List.drop_eq_nil_of_le (Nat.le_refl _)] at k2
        have k3 : Res.ok acc s2 = Res.ok fin sf := k2
        cases k3
        have mix : ∀ (i : Nat) (x : Slot), (restE s1.env sf.env vs)[i]? = some x → x = .un ∨ (sf.env[i]? = some x ∧ σ[i]? = (wipe σ vs)[i]?) ∨ ∃ d v, x = .fz d ∧ σ[i]? = some (some v) ∧ Rep C.K F2 v d := fun i x h => by
          rcases restE_at h with ⟨hm, ex⟩ | ⟨h1, h2⟩
          · have ok := List.all_eq_true.mp hc.1 i hm
            cases q5 : s1.env[i]? with
            | none => rw [List.getD_eq_getElem?_getD, q5] at ex; exact .inl ex
            | some z =>
              rw [List.getD_eq_getElem?_getD, q5] at ex
              have ex : x = z := ex
              subst ex
              rw [q5] at ok
              cases x with
              | un => exact .inl rfl
              | fz d =>
                obtain ⟨v, h3, h4⟩ := g1.slots i _ q5
                exact .inr (.inr ⟨d, v, rfl, h3, h4.mono e2⟩)
              | _ => cases ok
          · exact .inr (.inl ⟨h1, (wipe_other h2).symm⟩)
        have hlen : (restE s1.env sf.env vs).length = σ.length := by rw [restE_length, g2.len, wipe_length]
        exact k1 F2 H2 (g2.remix hlen mix) e2 _ ⟨Dl, avs, rfl, t2.remix mix, h2, r2⟩
  · rw [if_neg hc] at k1
    exact k1.elim
theorem se_dc {wi : TI} {fi : M T (List D)} {tg : TG} {is : List Nat} {p : D → M T Unit} {tt : TT} {ft : M T Bool} {tk te : TE} {fk fe : M T D} {vs : List Nat} (hi : Si C W wi fi) (hg : Sg C tg is p) (his : ∀ i ∈ is, i ∈ vs) (ht : Stt C W0 tt ft) (hk : Sv C W0 tk fk) (he : Sv C W0 te fe) :
    Se C W (tDc wi tg tt tk te vs) (mDc vs fi p ft fk fe) := fun F0 H0 L s σ F H Q g k => se_dc_at (fun R h => hi _ _ _ _ _ _ _ R g h) hg his ht hk he k
end
end Pm

set_option Elab.async false
set_option linter.all false
set_option maxRecDepth 100000
/-! {k: v for ..} bundled, evaluated; xs.pop(n). -/
namespace Pm
open PySem L2 RZ
section
variable {T : Type} {X : Cx} {C : Ct T} {W : WX} {k : Nat} {cls : Nat → Addr} {K : PySem.W.Frag} {a b e : Expr} {pos p : Pos} {ta tb tk te : TE} {fa fb fk fe : M T D} {tt : TT} {ft : M T Bool}
theorem de_dc {kx elt tg iter : Expr} {ifs : List Expr} {scope : Scope} {own : List (Str × Nat)} {wi : TI} {fi : M T (List D)} {g : TG} {is : List Nat} {f : D → M T Unit} (q : Cur X C W k cls K) (vs : List Nat) (hv : own.map (·.2) = vs) (his : ∀ i ∈ is, i ∈ vs) (hi : DI X C W tg iter wi fi) (ok : BlkOk X.N X.env.scope scope own)
    (hg : ∀ (s : Shared) (H : Hp) (Ca : Addr) (cl : List (Str × Addr)) (fp : List Addr), Cur (X.blk s H scope (compEnvC scope cl Ca X.env) fp) C W0 k cls K → DG (X.blk s H scope (compEnvC scope cl Ca X.env) fp) C tg g is f)
    (ht : ∀ (s : Shared) (H : Hp) (Ca : Addr) (cl : List (Str × Addr)) (fp : List Addr), Cur (X.blk s H scope (compEnvC scope cl Ca X.env) fp) C W0 k cls K → DTs (X.blk s H scope (compEnvC scope cl Ca X.env) fp) C W0 ifs tt ft)
    (hk : ∀ (s : Shared) (H : Hp) (Ca : Addr) (cl : List (Str × Addr)) (fp : List Addr), Cur (X.blk s H scope (compEnvC scope cl Ca X.env) fp) C W0 k cls K → DV (X.blk s H scope (compEnvC scope cl Ca X.env) fp) C W0 kx tk fk)
    (he : ∀ (s : Shared) (H : Hp) (Ca : Addr) (cl : List (Str × Addr)) (fp : List Addr), Cur (X.blk s H scope (compEnvC scope cl Ca X.env) fp) C W0 k cls K → DV (X.blk s H scope (compEnvC scope cl Ca X.env) fp) C W0 elt te fe) (hs : ∀ x, foldedSetIterable iter X.env x = pure x := by intro _; rfl) :
    DE X C W (.DictComp kx elt [⟨tg, iter, ifs, 0⟩] scope pos) (tDc wi g tt tk te vs) (mDc vs fi f ft fk fe) := by
  subst hv
  refine ⟨pe_dc q.calm q.nd hi.pe ok (fun s H Ca cl fp => (hg s H Ca cl fp (q.blk _ _ _ _ _)).pe) (fun s H Ca cl fp => (ht s H Ca cl fp (q.blk _ _ _ _ _)).pe) (fun s H Ca cl fp => (hk s H Ca cl fp (q.blk _ _ _ _ _)).pe) (fun s H Ca cl fp => (he s H Ca cl fp (q.blk _ _ _ _ _)).pe) hs, ?_⟩
  exact se_dc hi.sv (hg ({} : Shared) (fun _ => none) 0 [] [] (q.blk _ _ _ _ _)).sv his (ht ({} : Shared) (fun _ => none) 0 [] [] (q.blk _ _ _ _ _)).sv (hk ({} : Shared) (fun _ => none) 0 [] [] (q.blk _ _ _ _ _)).sv (he ({} : Shared) (fun _ => none) 0 [] [] (q.blk _ _ _ _ _)).sv
end
/-! ### evaluation -/
section
variable {T : Type}
def fDc2 (vs : List Nat) (old : List Slot) (r : Res T (List (D × D))) : Res T Slot := match r with
  | .ok acc s => .ok (.od acc) ⟨restE old s.env vs, s.t⟩
  | _ => .stuck
theorem fDc2_ok (vs : List Nat) (old : List Slot) (acc : List (D × D)) (e : List Slot) (t : T) : fDc2 vs old (.ok acc ⟨e, t⟩) = .ok (.od acc) ⟨restE old e vs, t⟩ := rfl
def fDc1 (vs : List Nat) (p : D → M T Unit) (ft : M T Bool) (fk fe : M T D) (r : Res T (List D)) : Res T Slot := match r with
  | .ok items s => if (okW s.env vs && decide (items.length ≤ lim)) = true then fDc2 vs s.env (mDcL vs (mDTurn p ft fk fe) items [] ⟨wipeE s.env vs, s.t⟩) else .stuck
  | .exc c s => .exc c s
  | .stuck => .stuck
theorem fDc1_of (vs : List Nat) (p : D → M T Unit) (ft : M T Bool) (fk fe : M T D) (items : List D) (e : List Slot) (t : T) (h1 : okW e vs = true) (h2 : items.length ≤ lim) : fDc1 vs p ft fk fe (.ok items ⟨e, t⟩) = fDc2 vs e (mDcL vs (mDTurn p ft fk fe) items [] ⟨wipeE e vs, t⟩) := by show (if (okW e vs && decide (items.length ≤ lim)) = true then _ else _) = _; rw [h1, decide_eq_true h2]; rfl
theorem fDc1_ex (vs : List Nat) (p : D → M T Unit) (ft : M T Bool) (fk fe : M T D) (c : Nat) (s : S T) : fDc1 vs p ft fk fe (.exc c s) = .exc c s := rfl
theorem e_dc (vs : List Nat) (fi : M T (List D)) (p : D → M T Unit) (ft : M T Bool) (fk fe : M T D) (s : S T) : mDc vs fi p ft fk fe s = fDc1 vs p ft fk fe (fi s) := by
  show fB _ (fi s) = _
  cases fi s with
  | exc c s => rfl
  | stuck => rfl
  | ok items s =>
    show (if (okW s.env vs && decide (items.length ≤ lim)) = true then _ else _) = if (okW s.env vs && decide (items.length ≤ lim)) = true then _ else _
    split
    · unfold fDc2
      cases mDcL vs (mDTurn p ft fk fe) items [] ⟨wipeE s.env vs, s.t⟩ <;> rfl
    · rfl
theorem e_dcN (vs : List Nat) (f : D → M T (Option (Key × D))) (acc : List (D × D)) (s : S T) : mDcL vs f [] acc s = .ok acc s := rfl
def fDcL (vs : List Nat) (f : D → M T (Option (Key × D))) (ds : List D) (acc : List (D × D)) (r : Res T (Option (Key × D))) : Res T (List (D × D)) := match r with
  | .ok o s => mDcL vs f ds (putO acc o) ⟨wipeE s.env vs, s.t⟩
  | .exc c s => .exc c s
  | .stuck => .stuck
theorem fDcL_s (vs : List Nat) (f : D → M T (Option (Key × D))) (ds : List D) (acc : List (D × D)) (k : Key) (d : D) (e : List Slot) (t : T) : fDcL vs f ds acc (.ok (some (k, d)) ⟨e, t⟩) = mDcL vs f ds (putD acc k d) ⟨wipeE e vs, t⟩ := rfl
theorem fDcL_n (vs : List Nat) (f : D → M T (Option (Key × D))) (ds : List D) (acc : List (D × D)) (e : List Slot) (t : T) : fDcL vs f ds acc (.ok none ⟨e, t⟩) = mDcL vs f ds acc ⟨wipeE e vs, t⟩ := rfl
theorem e_dcC (vs : List Nat) (f : D → M T (Option (Key × D))) (acc : List (D × D)) (d : D) (ds : List D) (s : S T) : mDcL vs f (d :: ds) acc s = fDcL vs f ds acc (f d s) := by
  show fB _ (f d s) = _
  cases f d s <;> rfl
def fDe (k : Key) (r : Res T D) : Res T (Option (Key × D)) := match r with
  | .ok d s => .ok (some (k, d)) s
  | .exc c s => .exc c s
  | .stuck => .stuck
theorem fDe_ok (k : Key) (d : D) (s : S T) : fDe k (.ok d s) = .ok (some (k, d)) s := rfl
def fDk (fe : M T D) (r : Res T D) : Res T (Option (Key × D)) := match r with
  | .ok (.str x) s => fDe (.inr x) (fe s)
  | .ok (.int x) s => fDe (.inl x) (fe s)
  | .ok d s => mBind fe (fun x => mLift ((keyOf d).map fun k => some (k, x))) s
  | .exc c s => .exc c s
  | .stuck => .stuck
theorem fDk_str (fe : M T D) (x : Str) (s : S T) : fDk fe (.ok (.str x) s) = fDe (.inr x) (fe s) := rfl
theorem fDk_int (fe : M T D) (x : Int) (s : S T) : fDk fe (.ok (.int x) s) = fDe (.inl x) (fe s) := rfl
def fDi (fk fe : M T D) (r : Res T Bool) : Res T (Option (Key × D)) := match r with
  | .ok true s => fDk fe (fk s)
  | .ok false s => .ok none s
  | .exc c s => .exc c s
  | .stuck => .stuck
theorem fDi_t (fk fe : M T D) (s : S T) : fDi fk fe (.ok true s) = fDk fe (fk s) := rfl
theorem fDi_f (fk fe : M T D) (s : S T) : fDi fk fe (.ok false s) = .ok none s := rfl
def fDt (ft : M T Bool) (fk fe : M T D) (r : Res T Unit) : Res T (Option (Key × D)) := match r with
  | .ok _ s => fDi fk fe (ft s)
  | .exc c s => .exc c s
  | .stuck => .stuck
theorem fDt_ok (ft : M T Bool) (fk fe : M T D) (u : Unit) (s : S T) : fDt ft fk fe (.ok u s) = fDi fk fe (ft s) := rfl
theorem e_dturn (p : D → M T Unit) (ft : M T Bool) (fk fe : M T D) (d : D) (s : S T) : mDTurn p ft fk fe d s = fBlk (fDt ft fk fe (p d s)) := by
  show fBlk (fB _ (p d s)) = _
  congr 1
  cases p d s with
  | exc c s => rfl
  | stuck => rfl
  | ok u s =>
    show fB _ (ft s) = fDi fk fe (ft s)
    cases ft s with
    | exc c s => rfl
    | stuck => rfl
    | ok k s =>
      cases k
      · rfl
      · show fB _ (fk s) = fDk fe (fk s)
        cases fk s with
        | exc c s => rfl
        | stuck => rfl
        | ok y s =>
          cases y with
          | str x =>
            show fB _ (fe s) = fDe _ (fe s)
            cases fe s <;> rfl
          | int x =>
            show fB _ (fe s) = fDe _ (fe s)
            cases fe s <;> rfl
          | _ => rfl
end
/-! ### xs.pop(n) -/
def mPop {T : Type} (i : Nat) (fa : M T D) : M T D := fun s => match s.env[i]? with
  | some (.ol _) => mBind fa (fun d s1 => match s1.env[i]?, d with
    | some (.ol xs), .int k => if 0 ≤ k ∧ k < 1000000 then (match xs[k.toNat]? with
      | some x => .ok x ⟨s1.env.set i (.ol (xs.eraseIdx k.toNat)), s1.t⟩
      | none => .stuck) else .stuck
    | _, _ => .stuck) s
  | _ => .stuck
theorem RepL.eraseIdx {K : PySem.W.Frag} {F : Hp} : ∀ {v : List V} {d : List D} (n : Nat), RepL K F v d → RepL K F (v.eraseIdx n) (d.eraseIdx n)
  | _, _, _, .nil => by simpa using RepL.nil
  | _, _, 0, .cons _ r => r
  | _, _, n + 1, .cons h r => .cons h (RepL.eraseIdx n r)
section
variable {T : Type} {C : Ct T} {W : WX}
theorem sv_pop {i : Nat} {ta : TE} {fa : M T D} (ha : Sv C W ta fa) : Sv C W (tBM C.K "list" rPopAt (tVar i) (tCons ta tNil)) (mPop i fa) := by
  intro F0 H0 L s σ F H Q g h
  unfold mPop at h
  cases q0 : s.env[i]? with
  | none => rw [q0] at h; exact h.elim
  | some x =>
    rw [q0] at h
    cases x with
    | ol xs =>
      simp only at h
      obtain ⟨p, vs, h1, h2, h3, h4, h5⟩ := g.slots i _ q0
      refine ⟨.ref p, h1, .inl ⟨rfl, _, SqL.of h4⟩, ?_⟩
      refine ha _ _ _ _ _ _ _ _ g (po_imp (po_bind h) fun n s1 F1 H1 g1 e1 k1 v rv => ?_)
      cases q1 : s1.env[i]? with
      | none => rw [q1] at k1; exact k1.elim
      | some y =>
        rw [q1] at k1
        cases y with
        | ol ys =>
          cases rv with
          | int k =>
            simp only at k1
            by_cases hc : 0 ≤ k ∧ k < 1000000
            · rw [if_pos hc] at k1
              obtain ⟨p', ws, z1, z2, z3, z4, z5⟩ := g1.slots i _ q1
              rw [h1] at z1; cases z1
              cases q2 : ys[k.toNat]? with
              | none => rw [q2] at k1; exact k1.elim
              | some x =>
                rw [q2] at k1
                obtain ⟨y, hy, ry⟩ := z5.get q2
                have hlt : k.toNat < ws.length := by
                  rcases Nat.lt_or_ge k.toNat ws.length with z | z
                  · exact z
                  · rw [List.getElem?_eq_none z] at hy; cases hy
                have g2 := g1.mutate (o := HO.lst (ws.eraseIdx k.toNat)) q1 rfl h1 (y := .ol (ys.eraseIdx k.toNat)) ⟨p, _, rfl, z2, z3, upd_same, z5.eraseIdx _⟩ z2 z3 ⟨_, z4⟩
                refine ⟨p, ws, k, k.toNat, y, rfl, rfl, z4, by omega, by omega, ?_, hy, ?_⟩
                · exact PySem.seqIndex_of hc.1 (by omega)
                · exact k1 _ _ g2 (Same.refl _) _ ry
            · rw [if_neg hc] at k1; exact k1.elim
          | _ => exact k1.elim
        | _ => exact k1.elim
    | _ => exact h.elim
end
section
variable {T : Type} {X : Cx} {C : Ct T} {W : WX} {k : Nat} {cls : Nat → Addr} {K : PySem.W.Frag} {a b e : Expr} {ta tb : TE} {fa fb : M T D}
theorem dv_pop {bb : Bool} (q : CurB bb X C W k cls K) (i : Nat) {o : Expr} {apos cpos : Pos} (ho : PE X o (tVar i)) (ha : DV X C W a ta fa)
    (hbase : attributeBase o "pop" X.env (eval o X.env) = eval o X.env := by rfl)
    (hfew : ((backTo cpos (starEach [a] X.env)).all (fun x => !x.1) && (backToKw cpos (keywordEach [] X.env)).all (fun x => x.1.isSome)
      && decide ([a].length + ([] : List Keyword).length + (if ([] : List Keyword).isEmpty then 0 else 1) < 30)) = true := by rfl)
    (hline : (apos.endLine == cpos.line) = true := by rfl) (hs : starEach [a] X.env = (false, eval a X.env) :: starEach [] X.env := by rfl) (hplain : (backTo cpos (starEach [] X.env)).any (·.1) = false := by rfl) :
    DV X C W (.Call (.Attribute o "pop" apos) [a] [] cpos) (tBM K "list" rPopAt (tVar i) (tCons ta tNil)) (mPop i fa) :=
  ⟨by rw [← q.hX]; exact pe_bm PySem.F.plainAttrs_list PySem.F.slot_list_pop PySem.F.type_list_pop mt_popAt ho (pa_cons ha.pe pa_nil hs) hbase hfew hline hs hplain, by rw [← q.hK]; exact sv_pop ha.sv⟩
end
section
variable {T : Type}
def fPop (i : Nat) (r : Res T D) : Res T D := match r with
  | .ok d s1 => (match s1.env[i]?, d with
    | some (.ol xs), .int k => if 0 ≤ k ∧ k < 1000000 then (match xs[k.toNat]? with
      | some x => .ok x ⟨s1.env.set i (.ol (xs.eraseIdx k.toNat)), s1.t⟩
      | none => .stuck) else .stuck
    | _, _ => .stuck)
  | .exc c s => .exc c s
  | .stuck => .stuck
theorem e_pop (i : Nat) (fa : M T D) (e : List Slot) (t : T) (xs : List D) (h : e[i]? = some (.ol xs)) : mPop i fa ⟨e, t⟩ = fPop i (fa ⟨e, t⟩) := by
  unfold mPop
  simp only [h]
  show fB _ (fa _) = _
  cases fa ⟨e, t⟩ <;> rfl
theorem fPop_of (i : Nat) (e : List Slot) (t : T) (xs : List D) (k : Nat) (x : D) (h1 : e[i]? = some (.ol xs)) (h2 : k < 1000000) (h3 : xs[k]? = some x) : fPop i (.ok (.int (k : Int)) ⟨e, t⟩) = .ok x ⟨e.set i (.ol (xs.eraseIdx k)), t⟩ := by
  unfold fPop
  simp only [h1]
  rw [if_pos ⟨by omega, by omega⟩]
  simp only [Int.toNat_natCast, h3]
end
end Pm

set_option Elab.async false
set_option linter.all false
set_option maxRecDepth 100000
/-! a op b op c op ..: a test of any length; tuple(text). -/
namespace Pm
open PySem PySem.Spec PyProof.Rows L2 RZ
def tCh : List (R2 × TE) → V → TT
  | [], _ => fun _ _ _ => False
  | [(r, t)], x => fun σ H Q => t σ H fun y H1 => r x y H1 fun z H2 => ∃ k, z = .bl k ∧ Q k H2
  | (r, t) :: p :: l, x => fun σ H Q => t σ H fun y H1 => r x y H1 fun z H2 => ∃ k, z = .bl k ∧ (if k = true then tCh (p :: l) y σ H2 Q else Q false H2)
def tChN (ta : TE) (l : List (R2 × TE)) : TT := fun σ H Q => ta σ H fun x H1 => tCh l x σ H1 Q
def mCh {T : Type} : List ((D → D → Option D) × M T D) → D → M T Bool
  | [], _ => fun _ => .stuck
  | [(op, f)], a => mBind f fun b => mB (mLift (op a b))
  | (op, f) :: p :: l, a => mBind f fun b => mBind (mB (mLift (op a b))) fun k => match k with
    | true => mCh (p :: l) b
    | false => mRet false
def mChN {T : Type} (fa : M T D) (l : List ((D → D → Option D) × M T D)) : M T Bool := mBind fa fun a => mCh l a
section
variable {T : Type} {X : Cx} {C : Ct T} {W : WX}
inductive DCh (X : Cx) (C : Ct T) (W : WX) : List CmpOp → List Expr → List (R2 × TE) → List ((D → D → Option D) × M T D) → Prop
  | one {op : CmpOp} {r : R2} {f : D → D → Option D} {b : Expr} {tb : TE} {fb : M T D} : CmpI X C op r f → DV X C W b tb fb → DCh X C W [op] [b] [(r, tb)] [(f, fb)]
  | cons {op : CmpOp} {r : R2} {f : D → D → Option D} {b : Expr} {tb : TE} {fb : M T D} {ops : List CmpOp} {bs : List Expr} {l : List (R2 × TE)} {m : List ((D → D → Option D) × M T D)} : CmpI X C op r f → DV X C W b tb fb → DCh X C W ops bs l m → DCh X C W (op :: ops) (b :: bs) ((r, tb) :: l) ((f, fb) :: m)
theorem DCh.ne {ops : List CmpOp} {bs : List Expr} {l : List (R2 × TE)} {m : List ((D → D → Option D) × M T D)} (h : DCh X C W ops bs l m) : ∃ op' ops' b' bs' p l' p' m', ops = op' :: ops' ∧ bs = b' :: bs' ∧ l = p :: l' ∧ m = p' :: m' := by
  cases h with
  | one => exact ⟨_, _, _, _, _, _, _, _, rfl, rfl, rfl, rfl⟩
  | cons => exact ⟨_, _, _, _, _, _, _, _, rfl, rfl, rfl, rfl⟩
theorem DCh.run {ops : List CmpOp} {bs : List Expr} {l : List (R2 × TE)} {m : List ((D → D → Option D) × M T D)} (h : DCh X C W ops bs l m) : ∀ (pos : Pos) (pins : List (Addr × Obj)) (s : Shared) (σ : L2.St) (H : Hp) (Q : Bool → Hp → Prop) (x : V) (v : Value), Inv X pins σ H s → RelV x v → tCh l x σ H Q →
    wpAny (model X.prog X.w) X.A (testChain pos v ops (evalEach bs X.env)) (TP X pins σ Q) X.xe s := by
  induction h with
  | one hc hb =>
    intro pos pins s σ H Q x v I rx q
    refine test_last (thn (hb.pe.run pins s σ H _ I q) fun w' s4 ⟨z', H4, I4, r4, q4⟩ => thn (hc.op pins s4 σ H4 x z' v w' _ I4 rx r4 q4) fun d' s5 ⟨z2, H5, I5, r5, k2, e2, q5⟩ => ?_)
    subst e2
    cases r5
    exact wpAny_truthy_bool ⟨H5, I5, q5⟩
  | cons hc hb hr ih =>
    intro pos pins s σ H Q x v I rx q
    obtain ⟨op', ops', b', bs', p, l', p', m', rfl, rfl, rfl, rfl⟩ := hr.ne
    refine test_link (thn (hb.pe.run pins s σ H _ I q) fun u s2 ⟨y, H2, I2, r2, q2⟩ => thn (hc.op pins s2 σ H2 x y v u _ I2 rx r2 q2) fun d s3 ⟨z, H3, I3, r3, k, e, q3⟩ => ?_)
    subst e
    cases r3
    refine wpAny_truthy_bool ?_
    cases k with
    | false => exact ite_ff ⟨H3, I3, q3⟩
    | true => exact ite_tt (ih pos pins s3 σ H3 Q y u I3 r2 q3)
theorem DCh.sv {ops : List CmpOp} {bs : List Expr} {l : List (R2 × TE)} {m : List ((D → D → Option D) × M T D)} (h : DCh X C W ops bs l m) : ∀ F0 H0 L s σ F H (Q : Bool → Hp → Prop) (x : V) (a : D), Good C F0 H0 L s σ F H → Rep C.K F x a → Po C W F0 H0 L F σ (fun b _ _ H' => Q b H') (mCh m a s) → tCh l x σ H Q := by
  induction h with
  | one hc hb =>
    intro F0 H0 L s σ F H Q x a g rx q
    refine hb.sv _ _ _ _ _ _ _ _ g (po_imp (po_bind q) fun b s2 F2 H2 g2 e2 h2 w rw' => ?_)
    refine hc.rv _ _ _ _ _ _ _ _ _ _ _ _ g2 (rx.mono e2) rw' ?_
    have h3 := po_bind h2
    unfold mLift at h3
    rename_i op r f b' tb fb
    cases q : f a b with
    | none => rw [q] at h3; exact h3.elim
    | some d =>
      rw [q] at h3
      intro z F3 H3 g3 e3 rz
      have h4 := h3 F3 H3 g3 e3
      dsimp only at h4
      cases q1 : asB d with
      | none => rw [q1] at h4; exact h4.elim
      | some k =>
        rw [q1] at h4
        exact ⟨k, rep_bool rz q1, h4 F3 H3 g3 (Same.refl _)⟩
  | cons hc hb hr ih =>
    intro F0 H0 L s σ F H Q x a g rx q
    obtain ⟨op', ops', b', bs', p, l', p', m', rfl, rfl, rfl, rfl⟩ := hr.ne
    refine hb.sv _ _ _ _ _ _ _ _ g (po_imp (po_bind q) fun b s2 F2 H2 g2 e2 h2 w rw' => ?_)
    refine hc.rv _ _ _ _ _ _ _ _ _ _ _ _ g2 (rx.mono e2) rw' ?_
    have h3 := po_bind (po_bind h2)
    unfold mLift at h3
    rename_i op r f b0 tb fb
    cases q : f a b with
    | none => rw [q] at h3; exact h3.elim
    | some d =>
      rw [q] at h3
      intro z F3 H3 g3 e3 rz
      have h4 := h3 F3 H3 g3 e3
      dsimp only at h4
      cases q1 : asB d with
      | none => rw [q1] at h4; exact h4.elim
      | some k =>
        rw [q1] at h4
        have h5 := h4 F3 H3 g3 (Same.refl _)
        refine ⟨k, rep_bool rz q1, ?_⟩
        cases k with
        | false => exact iteF (h5 F3 H3 g3 (Same.refl _))
        | true => exact iteT (ih _ _ _ _ _ _ _ _ _ _ g3 (rw'.mono e3) h5)
theorem dt_chN {a b b' : Expr} {op op' : CmpOp} {ops : List CmpOp} {bs : List Expr} {pos : Pos} {ta : TE} {fa : M T D} {l : List (R2 × TE)} {m : List ((D → D → Option D) × M T D)} (ha : DV X C W a ta fa) (h : DCh X C W (op :: op' :: ops) (b :: b' :: bs) l m)
    (hm : lastMarks (op :: op' :: ops) (b :: b' :: bs) = false := by with_unfolding_all rfl) : DT X C W (.Compare a (op :: op' :: ops) (b :: b' :: bs) pos) (tChN ta l) (mChN fa m) := by
  refine ⟨⟨fun pins s σ H Q I q => ?_⟩, fun F0 H0 L s σ F H Q g q => ?_⟩
  · exact isTrue_chain (thn (ha.pe.run pins s σ H _ I q) fun v s1 ⟨x, H1, I1, r1, q1⟩ => h.run pos pins s1 σ H1 Q x v I1 r1 q1) hm
  · exact ha.sv _ _ _ _ _ _ _ _ g (po_imp (po_bind q) fun a s1 F1 H1 g1 e1 h1 v rv => h.sv _ _ _ _ _ _ _ _ _ _ g1 rv h1)
end
section
variable {T : Type}
theorem e_chN (fa : M T D) (l : List ((D → D → Option D) × M T D)) (s : S T) : mChN fa l s = fB (fun a => mCh l a) (fa s) := rfl
theorem e_ch1 (op : D → D → Option D) (f : M T D) (a : D) (s : S T) : mCh [(op, f)] a s = fAsB (fOp2 op a (f s)) := by
  show fB _ (f s) = _
  cases f s with
  | exc c s => rfl
  | stuck => rfl
  | ok b s =>
    show mB (mLift (op a b)) s = _
    rw [e_B]
    rfl
def fChI (l : List ((D → D → Option D) × M T D)) (b : D) (r : Res T Bool) : Res T Bool := match r with
  | .ok true s => mCh l b s
  | .ok false s => .ok false s
  | .exc c s => .exc c s
  | .stuck => .stuck
theorem fChI_t (l : List ((D → D → Option D) × M T D)) (b : D) (s : S T) : fChI l b (.ok true s) = mCh l b s := rfl
theorem fChI_f (l : List ((D → D → Option D) × M T D)) (b : D) (s : S T) : fChI l b (.ok false s) = .ok false s := rfl
def fChC (op : D → D → Option D) (l : List ((D → D → Option D) × M T D)) (a : D) (r : Res T D) : Res T Bool := match r with
  | .ok b s => fChI l b (fAsB (lR (op a b) s))
  | .exc c s => .exc c s
  | .stuck => .stuck
theorem fChC_ok (op : D → D → Option D) (l : List ((D → D → Option D) × M T D)) (a b : D) (s : S T) : fChC op l a (.ok b s) = fChI l b (fAsB (lR (op a b) s)) := rfl
theorem e_chC (op : D → D → Option D) (f : M T D) (p : (D → D → Option D) × M T D) (l : List ((D → D → Option D) × M T D)) (a : D) (s : S T) : mCh ((op, f) :: p :: l) a s = fChC op (p :: l) a (f s) := by
  show fB _ (f s) = _
  cases f s with
  | exc c s => rfl
  | stuck => rfl
  | ok b s =>
    show fB _ (mB (mLift (op a b)) s) = fChI _ _ (fAsB (lR (op a b) s))
    rw [e_B]
    show fB _ (fAsB (lR (op a b) s)) = _
    cases fAsB (lR (op a b) s) with
    | ok k s => cases k <;> rfl
    | exc c s => rfl
    | stuck => rfl
end
/-! ### tuple(text) -/
theorem vals_at : ∀ (xs : List V) (us : List Value), xs.length = us.length → (∀ (j : Nat) x u, xs[j]? = some x → us[j]? = some u → RelV x u) → Vals xs us
  | [], [], _, _ => .nil
  | x :: xs, u :: us, hl, h => .cons (h 0 x u rfl rfl) (vals_at xs us (by simpa using hl) fun j x u e1 e2 => h (j + 1) x u (by simpa using e1) (by simpa using e2))
  | [], _ :: _, hl, _ => by cases hl
  | _ :: _, [], hl, _ => by cases hl
def opTupleS : D → Option D
  | .str z => if z.length ≤ lim then some (.tuple (z.cps.toList.map fun c => .str ⟨#[c]⟩)) else none
  | _ => none
abbrev rTupS : List V → Hp → VK → Prop := fun xs H Q => ∃ z : Str, xs = [.str z] ∧ z.length ≤ sizeLine ∧ ∀ l, H l = none → Q (.ref l) (upd H l (.tup (z.cps.toList.map fun c => .str ⟨#[c]⟩)))
theorem call_tuple_sign {X : Cx} (hc : X.calm = true) : CallR X (.type "tuple") rTupS := by
  intro pins s σ H xs us Q I r h
  obtain ⟨z, rfl, hz, q⟩ := h
  obtain ⟨u, rfl, rx⟩ := vals1 r
  obtain ⟨t, rfl⟩ := rx
  refine call_tuple_str (I.ok.hd hc) z t (fun h' tk acc kp hacc => ?_) hz
  have I1 : Inv X pins σ H { s with heap := h', toks := tk } := I.kept (t' := tk) kp
  have hl : acc.size = z.cps.toList.length := by rw [hacc.1]; simp
  have rel : Vals (z.cps.toList.map fun c => V.str ⟨#[c]⟩) acc.toList := by
    refine vals_at _ _ (by simp [hacc.1]) fun j v w hv hw => ?_
    obtain ⟨c, u, hc', rfl⟩ := hacc.2 j w (by simpa using hw)
    rw [List.getElem?_map] at hv
    simp only [Array.getElem?_toList] at hv
    rw [hc'] at hv
    cases hv
    exact ⟨u, rfl⟩
  have I2 : Inv X pins σ (upd H h'.objs.size (.tup (z.cps.toList.map fun c => V.str ⟨#[c]⟩))) { s with heap := h'.push { cls := .type "tuple", data := .seq acc }, toks := tk } :=
    I1.laid (t' := tk) (fun b o e => Heap.get?_push_of_some _ e) (Nat.le_refl _) (show ObjOk X.prog X.w _ _ _ (.tup _) from ⟨by rw [List.length_map, ← hl, hacc.1]; exact hz, acc.toList, rel, by simpa using IsTup.new _ _⟩)
  exact ⟨.ref h'.objs.size, _, I2, rfl, q _ (I1.hok.fresh (Nat.le_refl _))⟩
section
variable {T : Type} {C : Ct T} {W : WX} {X : Cx} {k : Nat} {cls : Nat → Addr} {K : PySem.W.Frag} {a : Expr} {pos p : Pos} {ta : TE} {fa : M T D}
theorem ru_tupleS : Ru C (fun x => rTupS [x]) opTupleS := by
  intro F0 H0 L s σ F H x d Q g rx h
  cases rx with
  | str z =>
    dsimp only [opTupleS] at h
    by_cases hc : z.length ≤ lim
    · rw [if_pos hc] at h
      refine ⟨z, rfl, lim_ok hc, fun l hl => ?_⟩
      have e1 := Same.updN (o := HO.tup (z.cps.toList.map fun c => V.str ⟨#[c]⟩)) (g.sub.nn hl)
      refine h _ _ _ (g.allocF hl) e1 (.tup (.inl (.inl upd_same)) ?_)
      generalize upd F l _ = F'
      generalize z.cps.toList = cs
      induction cs with
      | nil => exact .nil
      | cons c r ih => exact .cons (.str _) ih
    · rw [if_neg hc] at h; exact h.elim
  | _ => exact h.elim
theorem dv_tupleS (q : Cur X C W k cls K) (hm : X.mg "tuple" = none) (ha : DV X C W a ta fa) (hg : Gl X "tuple" := by rfl) (he : starEach [a] X.env = (false, eval a X.env) :: starEach [] X.env := by rfl) : DV X C W (.Call (.Name "tuple" p) [a] [] pos) (tCB rTupS (tCons ta tNil)) (mUn opTupleS fa) :=
  ⟨pe_callTy (call_tuple_sign q.calm) hg hm PyProof.Rows.boot_tuple (pa_cons ha.pe pa_nil he) (by decide) (by decide) he (by rfl), sv_cb1 ha.sv ru_tupleS⟩
end
end Pm

set_option Elab.async false
set_option linter.all false
set_option maxRecDepth 100000
/-! f() of a pure def without names. -/
namespace Pm
open PySem PySem.Spec PyProof.Rows L2 RZ
section
variable {X : Cx} {pos p : Pos} {x : Str} {f : Addr} {fd : FuncData} {ps : List Str} {sp : Sp} {E : L2.St → XK} {CX : CXT} {k : Nat}
theorem pe_callS0 (F : FnOk X.prog X.w X.K X.mg X.base CX k f fd ps sp) (hr : Room k X.A) (hg : Gl X x) (hm : X.mg x = some (.ref f)) (hk : PySem.W.keepIn X.K (.ref f) = true) (hb : Binds X.K fd ps []) (hx : ∀ σ, PassesAt CX X σ (E σ))
    (hdb : (x == ("__debug__" : Str)) = false := by decide) : PE X (.Call (.Name x p) [] [] pos) (tCallS sp E tNil) := by
  refine ⟨fun pins s σ H Q I h => ?_⟩
  refine wpAny_Call_Name_kw (ld_glob I hg hm ?_ hdb)
  exact PySem.W.callWith_K0 I.kIn hk (run_fnS (us := []) F hr hb (hx σ) I .nil h)
end
section
variable {T : Type} {X : Cx} {C : Ct T} {W : WX} {k : Nat} {cls : Nat → Addr} {K : PySem.W.Frag} {pos p : Pos}
theorem dv_call0 {k' : Nat} {x : Str} {ps : List Str} {g : List D → Rp} (q : Cur X C W k cls K) (F : DefP X.prog X.w X.K X.mg X.base cls x k' ps g) (hk : k' ≤ k) (hg : Gl X x := by rfl)
    (hdb : (x == ("__debug__" : Str)) = false := by decide) :
    DV X C W (.Call (.Name x p) [] [] pos) (tCallS (spP K cls g) (WE W) tNil) (mCall g (mRet [])) := by
  obtain ⟨f, fd, F1, m, kp, b⟩ := F.ok
  refine ⟨?_, by rw [← q.hK, ← q.hc]; exact sv_callP sa_nil⟩
  rw [← q.hX]
  exact pe_callS0 F1 (q.hr.mono hk) hg m kp b (fun σ => passAt q.tk σ) hdb
end
end Pm

set_option Elab.async false
set_option linter.all false
set_option maxRecDepth 100000
/-! sorting as insertion, so that the kernel can evaluate it. -/
namespace Pm
open PySem PySem.Spec PyProof.Rows L2 LamX RZ
def insBy {α : Type} (le : α → α → Bool) (x : α) : List α → List α
  | [] => [x]
  | y :: r => if le x y = true then x :: y :: r else y :: insBy le x r
def isort {α : Type} (le : α → α → Bool) : List α → List α
  | [] => []
  | x :: r => insBy le x (isort le r)
theorem insBy_perm {α : Type} (le : α → α → Bool) (x : α) : ∀ l : List α, (insBy le x l).Perm (x :: l)
  | [] => .refl _
  | y :: r => by
    unfold insBy
    split
    · exact .refl _
    · exact ((insBy_perm le x r).cons y).trans (.swap x y r)
theorem isort_perm {α : Type} (le : α → α → Bool) : ∀ l : List α, (isort le l).Perm l
  | [] => .refl _
  | x :: r => (insBy_perm le x _).trans ((isort_perm le r).cons x)
theorem insBy_sorted {α : Type} {le : α → α → Bool} (ht : ∀ a b c, le a b = true → le b c = true → le a c = true) (hl : ∀ a b, le a b = true ∨ le b a = true) (x : α) : ∀ l : List α, l.Pairwise (fun a b => le a b = true) → (insBy le x l).Pairwise (fun a b => le a b = true)
  | [], _ => List.pairwise_singleton _ _
  | y :: r, h => by
    unfold insBy
    rw [List.pairwise_cons] at h
    by_cases c : le x y = true
    · rw [if_pos c, List.pairwise_cons, List.pairwise_cons]
      refine ⟨fun z hz => ?_, h⟩
      rcases List.mem_cons.mp hz with q | q
      · rw [q]; exact c
      · exact ht _ _ _ c (h.1 z q)
    · rw [if_neg c, List.pairwise_cons]
      refine ⟨fun z hz => ?_, insBy_sorted ht hl x r h.2⟩
      rcases List.mem_cons.mp ((insBy_perm le x r).subset hz) with q | q
      · rw [q]; exact (hl x y).resolve_left c
      · exact h.1 z q
theorem isort_sorted {α : Type} {le : α → α → Bool} (ht : ∀ a b c, le a b = true → le b c = true → le a c = true) (hl : ∀ a b, le a b = true ∨ le b a = true) : ∀ l : List α, (isort le l).Pairwise (fun a b => le a b = true)
  | [] => .nil
  | x :: r => insBy_sorted ht hl x _ (isort_sorted ht hl r)
def strictL {α : Type} (le : α → α → Bool) : List α → Bool
  | [] => true
  | x :: r => (r.all fun y => le x y && !le y x) && strictL le r
theorem strict_uniq {α : Type} {le : α → α → Bool} : ∀ {l m : List α}, l.Perm m → strictL le l = true → m.Pairwise (fun a b => le a b = true) → l = m
  | [], m, p, _, _ => (List.nil_perm.mp p).symm
  | x :: r, [], p, _, _ => by have := p.length_eq; cases this
  | x :: r, y :: s, p, h, hm => by
    unfold strictL at h
    rw [Bool.and_eq_true] at h
    rw [List.pairwise_cons] at hm
    have e : x = y := by
      by_cases z : x = y
      · exact z
      · exfalso
        have hy : y ∈ r := by
          rcases List.mem_cons.mp (p.symm.subset List.mem_cons_self) with q | q
          · exact absurd q.symm z
          · exact q
        have hx : x ∈ s := by
          rcases List.mem_cons.mp (p.subset List.mem_cons_self) with q | q
          · exact absurd q z
          · exact q
        have k := List.all_eq_true.mp h.1 y hy
        rw [Bool.and_eq_true] at k
        have k2 := hm.1 x hx
        rw [k2] at k
        exact absurd k.2 (by decide)
    subst e
    rw [strict_uniq ((List.perm_cons x).mp p) h.2 hm.2]
theorem merge_sorted (l : List (D × PyData)) : (l.mergeSort (PySem.W.dataLe false Prod.snd)).Pairwise (fun a b => PySem.W.dataLe false Prod.snd a b = true) := by
  have t := PySem.W.sortLe_total (listOrd itemOrd) false (fun b : D × PyData => PySem.W.keyToks b.2)
  exact List.pairwise_mergeSort t.trans (fun a b => by rw [Bool.or_eq_true]; exact t.total a b) l
def sortDI (kf : D → Option PyData) (ds : List D) : Option (List D) := match keysD kf ds with
  | some bs => if (decide (ds.length ≤ 1000000) && strictL (PySem.W.dataLe false Prod.snd) (isort (PySem.W.dataLe false Prod.snd) bs)) = true then some ((isort (PySem.W.dataLe false Prod.snd) bs).map Prod.fst) else none
  | none => none
theorem sortDI_of {kf : D → Option PyData} {ds r : List D} (h : sortDI kf ds = some r) : sortD kf ds = some r := by
  unfold sortDI at h
  unfold sortD
  cases q : keysD kf ds with
  | none => rw [q] at h; cases h
  | some bs =>
    rw [q] at h
    dsimp only at h
    by_cases c : (decide (ds.length ≤ 1000000) && strictL (PySem.W.dataLe false Prod.snd) (isort (PySem.W.dataLe false Prod.snd) bs)) = true
    · rw [if_pos c] at h
      rw [Bool.and_eq_true] at c
      rw [if_pos (of_decide_eq_true c.1), Option.map_some, ← h]
      congr 2
      exact (strict_uniq ((isort_perm _ bs).trans (List.mergeSort_perm bs _).symm) c.2 (merge_sorted bs)).symm
    · rw [if_neg c] at h; cases h
def mSortKI {T : Type} (kf : S T → D → Option PyData) (f : M T D) : M T Slot := mBind f fun d s => match d with
  | .list ds => (match sortDI (kf s) ds with
    | some r => .ok (.ol r) s
    | none => .stuck)
  | _ => .stuck
theorem mSortKI_less {T : Type} (kf : S T → D → Option PyData) (f : M T D) (s : S T) : mSortKI kf f s = .stuck ∨ mSortKI kf f s = mSortK kf f s := by
  unfold mSortKI mSortK mBind
  cases f s with
  | exc c s => exact .inr rfl
  | stuck => exact .inr rfl
  | ok d s =>
    cases d with
    | list ds =>
      dsimp only
      cases q : sortDI (kf s) ds with
      | none => exact .inl rfl
      | some r => rw [sortDI_of q]; exact .inr rfl
    | _ => exact .inl rfl
section
variable {T : Type} {X : Cx} {C : Ct T} {W : WX}
theorem Se.less {t : TE} {f f' : M T Slot} (h : Se C W t f) (k : ∀ s, f' s = .stuck ∨ f' s = f s) : Se C W t f' := by
  intro F0 H0 L s σ F H Q g q
  rcases k s with e | e
  · rw [e] at q; exact q.elim
  · rw [e] at q; exact h _ _ _ _ _ _ _ _ g q
theorem de_sortI {e : Expr} {t : TE} {kf : S T → D → Option PyData} {f : M T D} (h : DE X C W e t (mSortK kf f)) : DE X C W e t (mSortKI kf f) := ⟨h.pe, h.sv.less (mSortKI_less kf f)⟩
end
/-! ints -/
def opSortedI : D → Option D
  | .list ds => (dInts ds).bind fun ns => if ns.length < 64 then some (.list ((isort (fun a b => decide (a ≤ b)) ns).map .int)) else none
  | _ => none
theorem sorted_eq : opSorted = opSortedI := by
  funext d
  cases d with
  | list ds =>
    show (dInts ds).bind _ = (dInts ds).bind _
    congr 1
    funext ns
    have e : ns.mergeSort (fun a b => decide (a ≤ b)) = isort (fun a b => decide (a ≤ b)) ns := by
      have t1 : ∀ a b c : Int, decide (a ≤ b) = true → decide (b ≤ c) = true → decide (a ≤ c) = true := fun a b c h1 h2 => decide_eq_true (Int.le_trans (of_decide_eq_true h1) (of_decide_eq_true h2))
      have t2 : ∀ a b : Int, decide (a ≤ b) = true ∨ decide (b ≤ a) = true := fun a b => (Int.le_total a b).imp decide_eq_true decide_eq_true
      refine perm_sorted_eq ((List.mergeSort_perm ns _).trans (isort_perm _ ns).symm) ?_ ?_
      · exact (List.pairwise_mergeSort t1 (fun a b => by rw [Bool.or_eq_true]; exact t2 a b) ns).imp of_decide_eq_true
      · exact (isort_sorted t1 t2 ns).imp of_decide_eq_true
    rw [e]
  | _ => rfl
section
variable {T : Type} {X : Cx} {C : Ct T} {W : WX} {k : Nat} {cls : Nat → Addr} {K : PySem.W.Frag} {a : Expr} {pos p : Pos} {ta : TE} {fa : M T D}
theorem dv_sortedI {e : Expr} {t : TE} {f : M T D} (h : DV X C W e t (mUn opSorted f)) : DV X C W e t (mUn opSortedI f) := by rw [← sorted_eq]; exact h
end
end Pm

set_option Elab.async false
set_option linter.all false
set_option maxRecDepth 100000
/-! A dict of one's own whose keys are tuples: display, put, walked; the state beside the town. -/
namespace Pm
open PySem PySem.Spec PyProof.Rows L2 LamX RZ
/-! ### tuple keys -/
def keysOf : List D → Option (List Key)
  | [] => some []
  | d :: r => match keyOf d, keysOf r with
    | some k, some ks => some (k :: ks)
    | _, _ => none
def keyT : D → Option (List Key)
  | .tuple (.int i :: r) => (keysOf r).map fun ks => Sum.inl i :: ks
  | _ => none
def keyD (ks : List Key) : D := .tuple (ks.map kD)
section
variable {K : PySem.W.Frag} {F F' : Hp}
theorem keysOf_rep : ∀ {vs : List V} {ds : List D} {ks : List Key}, RepL K F vs ds → keysOf ds = some ks → vs = ks.map kV ∧ ds = ks.map kD
  | _, _, ks, .nil, h => by cases h; exact ⟨rfl, rfl⟩
  | _, _, ks, .cons (d := d) (ds := ds) r rl, h => by
    unfold keysOf at h
    cases q : keyOf d with
    | none => rw [q] at h; cases h
    | some k =>
      cases q2 : keysOf ds with
      | none => rw [q, q2] at h; cases h
      | some kr =>
        rw [q, q2] at h
        cases h
        obtain ⟨e1, e2⟩ := keyOf_rep r q
        obtain ⟨e3, e4⟩ := keysOf_rep rl q2
        exact ⟨by rw [e1, e3]; rfl, by rw [e2, e4]; rfl⟩
theorem keyT_rep {v : V} {d : D} {ks : List Key} (r : Rep K F v d) (h : keyT d = some ks) : ∃ a, v = .ref a ∧ F a = some (.tup (ks.map kV)) ∧ d = keyD ks := by
  unfold keyT at h
  split at h
  · rename_i i r'
    cases q : keysOf r' with
    | none => rw [q] at h; cases h
    | some kr =>
      rw [q] at h
      cases h
      cases r with
      | tup hx rl =>
        cases rl with
        | cons r1 r2 =>
          cases r1
          obtain ⟨e1, e2⟩ := keysOf_rep r2 q
          subst e1 e2
          rcases hx with (hx | hx) | ⟨⟨z, r, e⟩, _⟩
          · exact ⟨_, rfl, hx, rfl⟩
          · exact hx.elim
          · cases e
  · cases h
theorem rep_keys : ∀ ks : List Key, RepL K F (ks.map kV) (ks.map kD)
  | [] => .nil
  | k :: ks => .cons (rep_key k) (rep_keys ks)
abbrev KTd := List (List Key × D)
inductive RepKT (K : PySem.W.Frag) (F : Hp) : List (List Key × V) → KTd → Prop
  | nil : RepKT K F [] []
  | cons {k : List Key} {v : V} {d : D} {ks : List (List Key × V)} {ds : KTd} : Rep K F v d → RepKT K F ks ds → RepKT K F ((k, v) :: ks) ((k, d) :: ds)
theorem RepKT.mono (e : Same F F') {ks : List (List Key × V)} {ds : KTd} (h : RepKT K F ks ds) : RepKT K F' ks ds := by
  induction h with
  | nil => exact .nil
  | cons r _ ih => exact .cons (r.mono e) ih
theorem RepKT.length {ks : List (List Key × V)} {ds : KTd} (h : RepKT K F ks ds) : ks.length = ds.length := by
  induction h with
  | nil => rfl
  | cons _ _ ih => rw [List.length_cons, List.length_cons, ih]
theorem RepKT.get {ks : List (List Key × V)} {ds : KTd} (h : RepKT K F ks ds) : ∀ i : Nat, (ks[i]?).map (·.1) = (ds[i]?).map (·.1) := by
  induction h with
  | nil => intro i; rfl
  | cons r _ ih =>
    intro i
    cases i with
    | zero => rfl
    | succ i => exact ih i
def putT (kts : KTd) (k : List Key) (d : D) : KTd := if (kts.any fun p => decide (p.1 = k)) = true then kts.map (fun p => if p.1 = k then (p.1, d) else p) else kts ++ [(k, d)]
theorem RepKT.any {ks : List (List Key × V)} {ds : KTd} (h : RepKT K F ks ds) (k : List Key) : (ks.any fun p => decide (p.1 = k)) = (ds.any fun p => decide (p.1 = k)) := by
  induction h with
  | nil => rfl
  | cons r _ ih => rw [List.any_cons, List.any_cons, ih]
theorem RepKT.repl {ks : List (List Key × V)} {ds : KTd} (h : RepKT K F ks ds) (k : List Key) {v : V} {d : D} (r : Rep K F v d) : RepKT K F (ks.map fun p => if p.1 = k then (p.1, v) else p) (ds.map fun p => if p.1 = k then (p.1, d) else p) := by
  induction h with
  | nil => exact .nil
  | @cons k' v' d' ks ds r' _ ih =>
    rw [List.map_cons, List.map_cons]
    by_cases e : k' = k
    · rw [if_pos e, if_pos e]; exact .cons r ih
    · rw [if_neg e, if_neg e]; exact .cons r' ih
theorem RepKT.snoc {ks : List (List Key × V)} {ds : KTd} (h : RepKT K F ks ds) (k : List Key) {v : V} {d : D} (r : Rep K F v d) : RepKT K F (ks ++ [(k, v)]) (ds ++ [(k, d)]) := by
  induction h with
  | nil => exact .cons r .nil
  | cons r' _ ih => exact .cons r' ih
theorem RepKT.put {ks : List (List Key × V)} {ds : KTd} (h : RepKT K F ks ds) (k : List Key) {v : V} {d : D} (r : Rep K F v d) : RepKT K F (putK ks k v) (putT ds k d) := by
  unfold putK putT
  rw [h.any k]
  split
  · exact h.repl k r
  · exact h.snoc k r
end
/-! ### the display -/
def mergeKT (kvs : List (List Key × V)) : List (List Key × Addr × V) → List (List Key × V)
  | [] => kvs
  | (k, _, v) :: r => mergeKT (putK kvs k v) r
def tDispT (trs : List (TE × TE)) : TE := fun σ H Q => ∀ p, H p = none → tPairs trs σ (upd H p (.dT [])) fun ps H2 => H2 p = some (.dT []) ∧ ∃ kvs : List (List Key × Addr × V), ps = kvs.map (fun kv => (V.ref kv.2.1, kv.2.2)) ∧ (∀ kv ∈ kvs, H2 kv.2.1 = some (.tup (kv.1.map kV))) ∧ kvs.length ≤ 15 ∧ Q (.ref p) (upd H2 p (.dT (mergeKT [] kvs)))
section
variable {X : Cx} {pins : List (Addr × Obj)} {σ : L2.St} {H : Hp} {s : Shared}
theorem d_dictSetT {D b : Addr} {kvs : List (List Key × V)} {k : List Key} {v : V} {r : Value} {E : Value → Shared → Prop} {Q : Unit → Shared → Prop} (hu : X.A.units + 1 < cLine) (I : L2.Inv X pins σ H s) (e : H D = some (.dT kvs)) (eb : H b = some (.tup (k.map kV))) (l : kvs.length < sizeLine) (rv : L2.RelV v r) (h : ∀ s', L2.Inv X pins σ (upd H D (.dT (putK kvs k v))) s' → Q () s') :
    wpAny (model X.prog X.w) X.A (dictSet D (.ref b) r) Q E s := by
  obtain ⟨z, hd, xs, rel, dd⟩ := dt_of I.hok e
  have hz : xs.length ≤ sizeLine := by rw [← Paired.length rel]; exact z
  have hl : (putK kvs k v).length ≤ sizeLine := by have := length_putK kvs k v; omega
  refine wpAny_dictSet_heap (hsz := hz) (show (tupleKind (mixKind X.prog X.w)).room X.A from (by show X.A.units < cLine; omega)) (key_of I.hok eb) dd fun h' dd' hs => h _ ?_
  obtain ⟨q, es, ep, hq, h2, h3, h4, _, h5⟩ := dd'
  refine d_write I (by rw [e]; exact True.intro) hs ⟨q, hq⟩ ⟨hl, hd, _, (rel.put k eb rv).keeps fun c ys ec => ?_, q, es, ep, hq, h2, h3, h4, h5⟩
  rw [upd_ne (ne_of ec e (fun z => nomatch z))]
  exact ec
theorem storeT {D : Addr} {E : Value → Shared → Prop} (hu : X.A.units + 1 < cLine) : ∀ (kvs : List (List Key × Addr × V)) (vs : List (Value × Value)) (acc : List (List Key × V)) (H : Hp) (s : Shared) (Q : PUnit → Shared → Prop), L2.Inv X pins σ H s → H D = some (.dT acc) →
    VV (kvs.map (fun kv => (V.ref kv.2.1, kv.2.2))) vs → (∀ kv ∈ kvs, H kv.2.1 = some (.tup (kv.1.map kV))) → acc.length + kvs.length ≤ 1000 →
    (∀ s', L2.Inv X pins σ (upd H D (.dT (mergeKT acc kvs))) s' → Q PUnit.unit s') →
    wpAny (model X.prog X.w) X.A (forIn vs PUnit.unit fun (x : Value × Value) (_ : PUnit) => (do dictSet D x.1 x.2; pure (ForInStep.yield PUnit.unit) : Sem (ForInStep PUnit))) Q E s
  | [], vs, acc, H, s, Q, I, e, r, _, _, h => by
    rw [List.map_nil] at r
    cases r
    rw [List.forIn_nil]
    refine wpAny_pure (h s ?_)
    have : upd H D (.dT (mergeKT acc [])) = H := funext fun b => by
      by_cases z : b = D
      · subst z; rw [upd_same, e]; rfl
      · rw [upd_ne z]
    rw [this]; exact I
  | (k, b, v) :: kvs, vs, acc, H, s, Q, I, e, r, hk, hl, h => by
    rw [List.map_cons] at r
    rw [List.length_cons] at hl
    cases r with
    | @cons _ q _ qs h1 t =>
      obtain ⟨q1, q2⟩ := q
      obtain ⟨r1, r2⟩ := h1
      cases (show q1 = Value.ref b from r1)
      rw [List.forIn_cons]
      have eb := hk (k, b, v) List.mem_cons_self
      refine wpAny_bind (wpAny_bind (d_dictSetT hu I e eb (by rw [sizeLine_eq]; omega) r2 fun s1 I1 => wpAny_pure ?_))
      have hlp := length_putK acc k v
      refine storeT hu kvs qs (putK acc k v) (upd H D (.dT (putK acc k v))) s1 Q I1 upd_same t (fun kv hkv => ?_) (by omega) fun s' I' => h s' ?_
      · have e2 := hk kv (List.mem_cons_of_mem _ hkv)
        rw [upd_ne (ne_of e2 e (fun z => nomatch z))]
        exact e2
      · have : upd (upd H D (.dT (putK acc k v))) D (.dT (mergeKT (putK acc k v) kvs)) = upd H D (.dT (mergeKT acc ((k, b, v) :: kvs))) := funext fun c => by
          by_cases z : c = D
          · subst z; rw [upd_same, upd_same]; rfl
          · rw [upd_ne z, upd_ne z, upd_ne z]
        rw [← this]; exact I'
end
theorem pe_dispT {X : Cx} {pos : Pos} {keys : List (Option Expr)} {values : List Expr} {trs : List (TE × TE)} (hu : X.A.units + 1 < cLine) (h : PPs X pos keys values trs) (hall : keys.all (·.isSome) = true) (hl : keys.length = values.length) (h0 : keys ≠ [])
    (h15 : keys.length ≤ 15) : PE X (.Dict keys values pos) (tDispT trs) := by
  refine ⟨fun pins s σ H Q I q => ?_⟩
  have hn := I.hok.fresh (Nat.le_refl s.heap.objs.size)
  have I1 := I.laid (a := s.heap.objs.size) (o := .dT []) (h' := s.heap.push { cls := .type "dict", data := .dict #[] }) (t' := s.toks) (fun _ _ q => Heap.get?_push_of_some _ q) (Nat.le_refl _) (dt_empty s.heap I.big)
  have hpl := pairTrees_length keys values X.env pos hall hl
  have hp0 : pairTrees keys values X.env pos ≠ [] := fun he => by
    rw [he] at hpl
    exact h0 (List.length_eq_zero_iff.mp hpl.symm)
  rw [arm_eval_Dict, zip_pairTrees keys values X.env pos hall hl, dictDisplay_pairs _ hp0 (by rw [hpl]; omega)]
  refine wpAny_bind (wpAny_standAt (wpAny_bind ?_))
  unfold subDict
  refine wpAny_bind (wpAny_alloc ?_)
  refine wpAny_bind (wpAny_holding ?_)
  rw [if_pos (by rw [hpl]; exact h15)]
  refine wpAny_bind (thn (h.run pins _ σ _ _ I1 (q _ hn)) fun ws s2 ⟨ps, H2, I2, rel, e, kvs, ep, hk, lk, q2⟩ => ?_)
  subst ep
  refine wpAny_holding ?_
  refine wpAny_bind (storeT hu kvs ws [] H2 s2 _ I2 e rel hk (by rw [List.length_nil]; omega) fun s' I' => wpAny_pure (wpAny_pure (wpAny_pure ⟨.ref s.heap.objs.size, _, I', rfl, q2⟩)))
end Pm

set_option Elab.async false
set_option linter.all false
set_option maxRecDepth 100000
/-! The dict with tuple keys stands beside the state while it is made. -/
namespace Pm
open PySem PySem.Spec PyProof.Rows L2 LamX RZ
section
variable {T : Type}
def CK (K : PySem.W.Frag) (C : Ct T) (p : Addr) : Ct (T × KTd) where
  ptr := fun n => if n = 9 then p else C.ptr n
  fp := p :: C.fp
  J := fun t F H => C.J t.1 F H ∧ p ∉ C.fp ∧ ∃ ks, H p = some (.dT ks) ∧ RepKT K F ks t.2
  stab := fun t F H F' H' j e k => by
    obtain ⟨j1, j2, ks, j3, j4⟩ := j
    exact ⟨C.stab _ _ _ _ _ j1 e fun a z => k a (List.mem_cons_of_mem _ z), j2, ks, by rw [k p List.mem_cons_self]; exact j3, j4.mono e⟩
  loose := C.loose
  K := K
  cls := C.cls
/-- the town alone, and where the dict lies -/
def CP (K : PySem.W.Frag) (C : Ct T) (p : Addr) : Ct T where
  ptr := fun n => if n = 9 then p else C.ptr n
  fp := C.fp
  J := C.J
  stab := C.stab
  loose := C.loose
  K := K
  cls := C.cls
variable {C : Ct T} {F0 H0 F H : Hp} {L : Nat → Option Addr} {s : S T} {σ : L2.St}
theorem Good.openK {K : PySem.W.Frag} (hK : C.K = K) (g : Good C F0 H0 L s σ F H) (h9 : no9 s.env = true) (i : Nat) {p : Addr} {ks : List (List Key × V)} {kt : KTd} (t : Tmp C H0 s σ F H p) (hp : H p = some (.dT ks)) (r : RepKT K F ks kt) :
    Good (CK K C p) F0 (upd H0 p (.dT ks)) L ⟨s.env.set i (.pt 9), (s.t, kt)⟩ (σ.set i (some (.ref p))) F H := by
  subst hK
  have pfp : p ∉ C.fp := fun z => g.fp0 p z t.h0
  have n0 : ∀ a, H0 a ≠ none → a ≠ p := fun a e z => e (z ▸ t.h0)
  refine { len := by simpa using g.len, sub := g.sub, ext0 := g.ext0, base := ?_, newF := ?_, fp0 := ?_, fpF := ?_, fpH := ?_, lH := ?_, slots := ?_, sep := ?_, j := ⟨g.j, pfp, ks, hp, r⟩ }
  · intro a o e z
    have h1 : a ≠ p := fun y => z (y ▸ List.mem_cons_self)
    rw [upd_ne h1] at e
    exact g.base a o e fun y => z (List.mem_cons_of_mem _ y)
  · intro a o e
    have h1 : a ≠ p := ne_of_none e t.f
    rw [upd_ne h1]
    exact g.newF a o e
  · intro a z e
    by_cases h1 : a = p
    · rw [h1, upd_same] at e; cases e
    · rw [upd_ne h1] at e
      rcases List.mem_cons.mp z with y | y
      · exact h1 y
      · exact g.fp0 a y e
  · intro a z
    rcases List.mem_cons.mp z with y | y
    · rw [y]; exact t.f
    · exact g.fpF a y
  · intro a z e
    rcases List.mem_cons.mp z with y | y
    · rw [y, hp] at e; cases e
    · exact g.fpH a y e
  · intro j a e z
    by_cases h1 : a = p
    · rw [h1, upd_same] at z; cases z
    · rw [upd_ne h1] at z; exact g.lH j a e z
  · intro j y hy
    by_cases e : i = j
    · subst e
      by_cases hl : i < s.env.length
      · rw [List.getElem?_set_self hl] at hy
        cases hy
        show (σ.set i (some (V.ref p)))[i]? = some (some (.ref (if 9 = 9 then p else C.ptr 9)))
        rw [if_pos rfl, List.getElem?_set_self (by rw [← g.len]; exact hl)]
      · rw [List.getElem?_eq_none (by simpa using hl)] at hy; cases hy
    · rw [List.getElem?_set_ne e] at hy ⊢
      have k := g.slots j y hy
      cases y with
      | un => trivial
      | fz d => exact k
      | pt n =>
        have n9 := no9_at h9 hy
        show σ[j]? = some (some (.ref (if n = 9 then p else C.ptr n)))
        rw [if_neg n9]; exact k
      | ol xs =>
        obtain ⟨r, vs, h1, h2, h3, h4, h5⟩ := k
        have rp : r ≠ p := fun z => t.no j _ hy rfl (by rw [h1, z])
        exact ⟨r, vs, h1, h2, by rw [upd_ne rp]; exact h3, h4, h5⟩
      | od xs =>
        obtain ⟨r, vs, h1, h2, h3, h4, h5⟩ := k
        have rp : r ≠ p := fun z => t.no j _ hy rfl (by rw [h1, z])
        exact ⟨r, vs, h1, h2, by rw [upd_ne rp]; exact h3, h4, h5⟩
      | bw xs =>
        obtain ⟨r, vs, h1, h2, h3, h4, h5⟩ := k
        have rp := n0 r (by rw [h4]; exact fun z => nomatch z)
        exact ⟨r, vs, h1, h2, fun z => by
          rcases List.mem_cons.mp z with y | y
          · exact rp y
          · exact h3 y, by rw [upd_ne rp]; exact h4, h5⟩
  · intro a b y z r hab ha hb oy oz e1 e2
    by_cases ia : i = a
    · subst ia
      by_cases hl : i < s.env.length
      · rw [List.getElem?_set_self hl] at ha
        cases ha; cases oy
      · rw [List.getElem?_eq_none (by simpa using hl)] at ha; cases ha
    · by_cases ib : i = b
      · subst ib
        by_cases hl : i < s.env.length
        · rw [List.getElem?_set_self hl] at hb
          cases hb; cases oz
        · rw [List.getElem?_eq_none (by simpa using hl)] at hb; cases hb
      · rw [List.getElem?_set_ne ia] at ha e1
        rw [List.getElem?_set_ne ib] at hb e2
        exact g.sep a b y z r hab ha hb oy oz e1 e2
theorem Good.closeK {K : PySem.W.Frag} (hK : C.K = K) {s0 : S T} {σ0 : L2.St} {Fs Hs : Hp} (g0 : Good C F0 H0 L s0 σ0 Fs Hs) {p : Addr} {op : HO} (p0 : H0 p = none) {s' : S (T × KTd)} {σ' : L2.St} {F' H' : Hp} (g : Good (CK K C p) F0 (upd H0 p op) L s' σ' F' H') {i : Nat} (hi : s'.env[i]? = some (.pt 9)) (h9 : no9 (s'.env.set i .un) = true) :
    Good C F0 H0 L ⟨s'.env.set i .un, s'.t.1⟩ σ' F' H' ∧ σ'[i]? = some (some (.ref p)) ∧ F' p = none ∧ ∃ ks, H' p = some (.dT ks) ∧ RepKT K F' ks s'.t.2 := by
  subst hK
  have pf : p ∈ (CK C.K C p).fp := List.mem_cons_self
  have Fp : F' p = none := g.fpF p pf
  obtain ⟨j1, _, ks, j3, j4⟩ := g.j
  have up0 : ∀ a, upd H0 p op a = none → H0 a = none ∧ a ≠ p := fun a e => by
    by_cases h1 : a = p
    · subst h1; rw [upd_same] at e; cases e
    · rw [upd_ne h1] at e; exact ⟨e, h1⟩
  have n0 : ∀ a, H0 a ≠ none → a ≠ p := fun a e z => e (z ▸ p0)
  have hσ : σ'[i]? = some (some (.ref p)) := by
    have k := g.slots i _ hi
    have k' : σ'[i]? = some (some (.ref (if 9 = 9 then p else C.ptr 9))) := k
    rw [if_pos rfl] at k'
    exact k'
  have hlt : i < s'.env.length := (List.getElem?_eq_some_iff.mp hi).1
  refine ⟨?_, hσ, Fp, ks, j3, j4⟩
  refine { len := by simpa using g.len, sub := g.sub, ext0 := g.ext0, base := ?_, newF := ?_, fp0 := g0.fp0, fpF := ?_, fpH := ?_, lH := g0.lH, slots := ?_, sep := ?_, j := j1 }
  · intro a o z y
    have h1 := n0 a (by rw [z]; exact fun z => nomatch z)
    refine g.base a o (by rw [upd_ne h1]; exact z) fun w => ?_
    rcases List.mem_cons.mp w with w | w
    · exact h1 w
    · exact y w
  · intro a o z
    rcases g.newF a o z with w | w | w
    · exact .inl w
    · exact .inr (.inl (up0 a w).1)
    · exact .inr (.inr w)
  · intro a z
    exact g.fpF a (List.mem_cons_of_mem _ z)
  · intro a z
    exact g.fpH a (List.mem_cons_of_mem _ z)
  · intro j y hy
    by_cases ij : i = j
    · subst ij
      rw [List.getElem?_set_self hlt] at hy
      cases hy
      trivial
    · rw [List.getElem?_set_ne ij] at hy
      have k := g.slots j y hy
      cases y with
      | un => trivial
      | fz d => exact k
      | pt n =>
        have n9 : n ≠ 9 := no9_at (i := j) h9 (by rw [List.getElem?_set_ne ij]; exact hy)
        have k' : σ'[j]? = some (some (.ref (if n = 9 then p else C.ptr n))) := k
        rw [if_neg n9] at k'
        exact k'
      | ol xs =>
        obtain ⟨r, vs, h1, h2, h3, h4, h5⟩ := k
        exact ⟨r, vs, h1, h2, (up0 r h3).1, h4, h5⟩
      | od xs =>
        obtain ⟨r, vs, h1, h2, h3, h4, h5⟩ := k
        exact ⟨r, vs, h1, h2, (up0 r h3).1, h4, h5⟩
      | bw xs =>
        obtain ⟨r, vs, h1, h2, h3, h4, h5⟩ := k
        have rp : r ≠ p := fun z => h3 (z ▸ pf)
        exact ⟨r, vs, h1, h2, fun z => h3 (List.mem_cons_of_mem _ z), by rw [upd_ne rp] at h4; exact h4, h5⟩
  · intro a b y z r hab ha hb oy oz ea eb
    by_cases ia : i = a
    · subst ia
      rw [List.getElem?_set_self hlt] at ha
      cases ha; cases oy
    · by_cases ib : i = b
      · subst ib
        rw [List.getElem?_set_self hlt] at hb
        cases hb; cases oz
      · rw [List.getElem?_set_ne ia] at ha
        rw [List.getElem?_set_ne ib] at hb
        exact g.sep a b y z r hab ha hb oy oz ea eb
/-- locked: the town alone walks on, the dict is part of the base -/
theorem Good.lockK {K : PySem.W.Frag} {p : Addr} {s : S (T × KTd)} (g : Good (CK K C p) F0 H0 L s σ F H) {ks : List (List Key × V)} (od : Obj) : Good (CP K C p) F (upd H0 p (.frz od (.dT ks))) L ⟨s.env, s.t.1⟩ σ F (upd H p (.frz od (.dT ks))) := by
  have pf : p ∈ (CK K C p).fp := List.mem_cons_self
  have Fp : F p = none := g.fpF p pf
  have p0 := g.fp0 p pf
  obtain ⟨j1, pfp, _⟩ := g.j
  refine { len := g.len, sub := ?_, ext0 := Same.refl F, base := ?_, newF := fun b o h => .inl h, fp0 := ?_, fpF := fun a z => g.fpF a (List.mem_cons_of_mem _ z), fpH := ?_, lH := ?_, slots := ?_, sep := g.sep, j := ?_ }
  · intro b o h
    rw [upd_ne (ne_of_none h Fp)]
    exact g.sub b o h
  · intro b o h z
    by_cases e : b = p
    · subst e
      rw [upd_same] at h ⊢
      exact h
    · rw [upd_ne e] at h ⊢
      exact g.base b o h fun y => (List.mem_cons.mp y).elim e z
  · intro b z
    rw [upd_ne (fun e : b = p => pfp (e ▸ z))]
    exact g.fp0 b (List.mem_cons_of_mem _ z)
  · intro b z
    rw [upd_ne (fun e : b = p => pfp (e ▸ z))]
    exact g.fpH b (List.mem_cons_of_mem _ z)
  · intro i q h
    by_cases e : q = p
    · subst e
      rw [upd_same]
      exact fun z => by cases z
    · rw [upd_ne e]
      exact g.lH i q h
  · intro i x hx
    have k := g.slots i x hx
    cases x with
    | un => trivial
    | fz d => exact k
    | pt n => exact k
    | ol xs =>
      obtain ⟨r, vs, h1, h2, h3, h4, h5⟩ := k
      have rp : r ≠ p := fun z => p0 (z ▸ h3)
      exact ⟨r, vs, h1, h2, by rw [upd_ne rp]; exact h3, by rw [upd_ne rp]; exact h4, h5⟩
    | od xs =>
      obtain ⟨r, vs, h1, h2, h3, h4, h5⟩ := k
      have rp : r ≠ p := fun z => p0 (z ▸ h3)
      exact ⟨r, vs, h1, h2, by rw [upd_ne rp]; exact h3, by rw [upd_ne rp]; exact h4, h5⟩
    | bw xs =>
      obtain ⟨r, vs, h1, h2, h3, h4, h5⟩ := k
      have rp : r ≠ p := fun z => h3 (z ▸ pf)
      exact ⟨r, vs, h1, h2, fun z => h3 (List.mem_cons_of_mem _ z), by rw [upd_ne rp]; exact h4, h5⟩
  · exact C.stab s.t.1 F H F _ j1 (Same.refl F) fun b z => upd_ne fun e => pfp (e ▸ z)
theorem Good.unlockK {K : PySem.W.Frag} {p : Addr} {s : S (T × KTd)} (g : Good (CK K C p) F0 H0 L s σ F H) {ks : List (List Key × V)} (r : RepKT K F ks s.t.2) {od : Obj} {s' : S T} {σ' : L2.St} {F' H' : Hp} (g' : Good (CP K C p) F (upd H0 p (.frz od (.dT ks))) L s' σ' F' H') :
    H' p = some (.frz od (.dT ks)) ∧ Good (CK K C p) F0 H0 L ⟨s'.env, (s'.t, s.t.2)⟩ σ' F' (upd H' p (.dT ks)) := by
  have pf : p ∈ (CK K C p).fp := List.mem_cons_self
  have p0 := g.fp0 p pf
  obtain ⟨_, pfp, _⟩ := g.j
  have hH' : H' p = some (.frz od (.dT ks)) := g'.base p _ upd_same pfp
  have Fp' : F' p = none := by
    cases z : F' p with
    | none => rfl
    | some o =>
      rcases g'.newF p o z with y | y | ⟨_, xs, rfl⟩
      · rw [g.fpF p pf] at y; cases y
      · rw [upd_same] at y; cases y
      · rcases g'.sub p _ z with k2 | ⟨⟨ks, k2⟩, _⟩
        · rw [hH'] at k2; cases k2
        · cases k2
  have n0 : ∀ a, upd H0 p (.frz od (.dT ks)) a = none → a ≠ p ∧ H0 a = none := fun a h => by
    by_cases e : a = p
    · subst e; rw [upd_same] at h; cases h
    · rw [upd_ne e] at h; exact ⟨e, h⟩
  refine ⟨hH', { len := g'.len, sub := ?_, ext0 := g.ext0.trans g'.ext0, base := ?_, newF := ?_, fp0 := g.fp0, fpF := ?_, fpH := ?_, lH := g.lH, slots := ?_, sep := g'.sep, j := ⟨?_, pfp, ks, upd_same, r.mono g'.ext0⟩ }⟩
  · intro b o h
    rw [upd_ne (ne_of_none h Fp')]
    exact g'.sub b o h
  · intro b o h z
    have e : b ≠ p := fun y => z (y ▸ pf)
    rw [upd_ne e]
    exact g'.base b o (by rw [upd_ne e]; exact h) fun y => z (List.mem_cons_of_mem _ y)
  · intro b o h
    rcases g'.newF b o h with y | y | y
    · exact g.newF b o y
    · exact .inr (.inl (n0 b y).2)
    · exact .inr (.inr y)
  · intro a z
    rcases List.mem_cons.mp z with y | y
    · rw [y]; exact Fp'
    · exact g'.fpF a y
  · intro a z
    by_cases e : a = p
    · rw [e, upd_same]; exact fun z => nomatch z
    · rw [upd_ne e]
      exact g'.fpH a ((List.mem_cons.mp z).resolve_left e)
  · intro i y hy
    have k := g'.slots i y hy
    cases y with
    | un => trivial
    | fz d => exact k
    | pt n => exact k
    | ol xs =>
      obtain ⟨q, vs, h1, h2, h3, h4, h5⟩ := k
      exact ⟨q, vs, h1, h2, (n0 q h3).2, by rw [upd_ne (n0 q h3).1]; exact h4, h5⟩
    | od xs =>
      obtain ⟨q, vs, h1, h2, h3, h4, h5⟩ := k
      exact ⟨q, vs, h1, h2, (n0 q h3).2, by rw [upd_ne (n0 q h3).1]; exact h4, h5⟩
    | bw xs =>
      obtain ⟨q, vs, h1, h2, h3, h4, h5⟩ := k
      have e : q ≠ p := fun e => by subst e; rw [upd_same] at h4; cases h4
      exact ⟨q, vs, h1, h2, fun z => (List.mem_cons.mp z).elim e h3, by rw [upd_ne e] at h4; exact h4, h5⟩
  · exact C.stab s'.t F' H' F' _ g'.j (Same.refl F') fun b z => upd_ne fun e => pfp (e ▸ z)
/-! ### tuples taken over -/
def NoTup (C : Ct T) : Prop := C.loose = true ∧ ∀ t F H, C.J t F H → ∀ a ∈ C.fp, ∀ xs, H a ≠ some (.tup xs)
theorem Good.adopt (hA : NoTup C) (g : Good C F0 H0 L s σ F H) {q : Addr} {xs : List V} (hq : H q = some (.tup xs)) : ∃ F', Good C F0 H0 L s σ F' H ∧ Same F F' ∧ F' q = some (.tup xs) := by
  have qfp : q ∉ C.fp := fun z => hA.2 _ _ _ g.j q z xs hq
  cases e : F q with
  | some o =>
    rcases g.sub q o e with z | ⟨⟨ks, z⟩, ob, y⟩
    · rw [hq] at z; cases z
      exact ⟨F, g, Same.refl _, e⟩
    · rw [hq] at y; cases y
  | none =>
    have st := Same.updN (o := HO.tup xs) e
    have noo : ∀ r vs, H r = some (.lst vs) → r ≠ q := fun r vs h z => by rw [z, hq] at h; cases h
    have nod : ∀ r vs, H r = some (.dK vs) → r ≠ q := fun r vs h z => by rw [z, hq] at h; cases h
    refine ⟨upd F q (.tup xs), { len := g.len, sub := ?_, ext0 := g.ext0.trans st, base := g.base, newF := ?_, fp0 := g.fp0, fpF := ?_, fpH := g.fpH, lH := g.lH, slots := ?_, sep := g.sep, j := C.stab _ _ _ _ _ g.j st fun _ _ => rfl }, st, upd_same⟩
    · intro a o h
      by_cases z : a = q
      · subst z; rw [upd_same] at h; cases h; exact .inl hq
      · rw [upd_ne z] at h; exact g.sub a o h
    · intro a o h
      by_cases z : a = q
      · subst z; rw [upd_same] at h; cases h; exact .inr (.inr ⟨hA.1, xs, rfl⟩)
      · rw [upd_ne z] at h; exact g.newF a o h
    · intro a z
      rw [upd_ne (fun y : a = q => qfp (y ▸ z))]
      exact g.fpF a z
    · intro i x hx
      have k := g.slots i x hx
      cases x with
      | un => trivial
      | fz d =>
        obtain ⟨v, h1, h2⟩ := k
        exact ⟨v, h1, h2.mono st⟩
      | pt n => exact k
      | ol ys =>
        obtain ⟨r, vs, h1, h2, h3, h4, h5⟩ := k
        exact ⟨r, vs, h1, by rw [upd_ne (noo r vs h4)]; exact h2, h3, h4, h5.mono st⟩
      | od ys =>
        obtain ⟨r, vs, h1, h2, h3, h4, h5⟩ := k
        exact ⟨r, vs, h1, by rw [upd_ne (nod r vs h4)]; exact h2, h3, h4, h5.mono st⟩
      | bw ys =>
        obtain ⟨r, vs, h1, h2, h3, h4, h5⟩ := k
        exact ⟨r, vs, h1, h2, h3, h4, h5.mono st⟩
end
theorem noTup_CT (K : PySem.W.Frag) (cls : Nat → Addr) (a p : Addr) : NoTup (CT K cls a p) := ⟨rfl, fun t F H j b hb xs e => by
  rcases List.mem_cons.mp hb with z | z
  · have h1 : H p = some (.lst [.int t.c, .int t.r]) := j.1.2.1
    rw [z, h1] at e; cases e
  · obtain ⟨r, hr, rfl⟩ := List.mem_map.mp z
    obtain ⟨ps, h1, _⟩ := j.2 r hr
    rw [h1] at e; cases e⟩
theorem noTup_CP {T : Type} {K : PySem.W.Frag} {C : Ct T} {p : Addr} (h : NoTup C) : NoTup (CP K C p) := h
end Pm

set_option Elab.async false
set_option linter.all false
set_option maxRecDepth 100000
/-! sorted(d, key=f), d a dict with tuple keys: over the heap. -/
namespace PySem.W
open PySem PySem.Spec PyProof.Rows
section
variable {prog : Program} {w : World} {A : Around} {E : Value → Shared → Prop} {s : Shared} {T : String} {r d : Addr} {n : Nat} {P : Nat → Value → Prop} {OK : Heap → Prop}
theorem collectKD {R : List Value → Shared → Prop} (K : KdlSrc prog w T r d n P OK) (hh : A.handled = none) (hok : OK s.heap) (hn : n ≤ sizeLine)
    (h : ∀ (h' : Heap) (tk : Nat) (acc : Array Value), (∀ b o, s.heap.get? b = some o → h'.get? b = some o) → s.heap.objs.size < h'.objs.size → ItemsOf P acc n → R acc.toList { s with heap := h', toks := tk }) :
    wpAny (model prog w) A (collect (.ref r)) R E s := by
  have hlt := K.there _ hok
  unfold collect
  refine wpAny_bind (wpAny_runValue (codeAny_builtin entry_proto_collect' ?_))
  rw [Around.under_plainId PySem.F.plain_proto_collect _]
  show wpAny _ A.in1 (newList [] >>= fun l => again (.builtin "list.__iadd__" ⟨[l, .ref r], []⟩)) _ _ s
  refine wpAny_bind (wpAny_newObj_type ?_)
  refine wpAny_pure ⟨plainId_quiet PySem.F.plain_list_iadd _, codeAny_builtin entry_list_iadd' ?_⟩
  rw [Around.under_plainId PySem.F.plain_list_iadd _]
  have hS₁ : (s.heap.push { cls := .type "list", data := .seq ([] : List Value).toArray }).get? s.heap.objs.size = some { cls := .type "list", data := .seq #[] } := Heap.get?_push_size _ rfl
  show wpAny _ A.in1 (Builtin.List.listExtendWith (.ref s.heap.objs.size) (.ref r) (.ref s.heap.objs.size)) _ _ _
  have key := kdl_extend (A := A) (s := { s with heap := s.heap.push { cls := .type "list", data := .seq ([] : List Value).toArray } })
    (R := fun (q : Result) (s' : Shared) => ∃ (h' : Heap) (tk : Nat) (acc' : Array Value) (c' : Nat), q = .ok (.ret (.ref s.heap.objs.size)) ∧ s' = { s with heap := h', toks := tk } ∧
      (∀ b o, s.heap.get? b = some o → h'.get? b = some o) ∧ h'.get? s.heap.objs.size = some { cls := .type "list", dict := none, data := .seq acc' c', slots := #[] } ∧ ItemsOf P acc' n)
    K hh (K.keep _ _ hok fun b _ o e => Heap.get?_push_of_some _ e) s.heap.objs.size (Nat.ne_of_gt hlt.1) (Nat.ne_of_gt hlt.2) (.ref s.heap.objs.size) 0 hS₁
    (fun h' tk acc' c' hk hS' hacc => ⟨h', tk, acc', c', rfl, rfl, fun b o e => hk b o (Nat.ne_of_lt (Heap.lt_size e)) (Heap.get?_push_of_some _ e), hS', hacc⟩) hn
  refine wpAny_mono key (fun fin s' x => ?_) fun e s' x => ?_
  · cases fin with
    | done f =>
      obtain ⟨h', tk, acc', c', e, rfl, hk, hS', hacc⟩ := x
      cases e
      show wpAny _ A (load s.heap.objs.size >>= _) _ _ _
      refine wpAny_bind (wpAny_load hS' ?_)
      exact wpAny_pure (h h' tk acc' hk (Heap.lt_size hS') hacc)
    | again c₁ =>
      refine ⟨x.1, codeAny_mono x.2 fun q s₂ y => ?_⟩
      obtain ⟨h', tk, acc', c', rfl, rfl, hk, hS', hacc⟩ := y
      show wpAny _ A (load s.heap.objs.size >>= _) _ _ _
      refine wpAny_bind (wpAny_load hS' ?_)
      exact wpAny_pure (h h' tk acc' hk (Heap.lt_size hS') hacc)
  · obtain ⟨_, _, _, _, e', _⟩ := x
    cases e'
/-- sorted(d, key=f), the keys that come known by their number -/
theorem sortedKD {β : Type} {R : Value → β → Prop} {f : Value} {kw : List (Str × Value)} {b : Bool} {Q : Value → Shared → Prop} (K : KdlSrc prog w T r d n P OK) (hh : A.handled = none) (hok : OK s.heap) (hn : n ≤ sizeLine) (k : β → PyData)
    (hB : ∀ acc : Array Value, ItemsOf P acc n → ∃ bs : List β, EachIs R acc.toList bs ∧ AllAlike (bs.map k) ∧ Sortable (bs.map k) ∧ bs.length ≤ sizeLine ∧ (∀ x, x ∈ bs → A.units + 2 + (k x).depth < cLine) ∧
      (∀ (v : Value) (x : β), R v x → x ∈ bs → ∀ (h : Heap) (tk : Nat), (∀ b o, s.heap.get? b = some o → h.get? b = some o) → wpAny (model prog w) A.in1.in1 (call f [v]) (KeyPure (k x) { s with heap := h, toks := tk }) (fun _ _ => False) { s with heap := h, toks := tk }) ∧
      ∀ out c h' tk a, (∀ b o, s.heap.get? b = some o → h'.get? b = some o) → s.heap.objs.size ≤ a → h'.get? a = some (seqObj "list" (List.toArray out) c) → out.length = bs.length → EachIs R out (bs.mergeSort (dataLe b k)) → Q (.ref a) { s with heap := h', toks := tk })
    (ha1 : argsOk "sorted" ⟨[.ref r], kw⟩) (ha2 : ∀ x, argsOk "list.sort" ⟨[.ref x], kw⟩) (ht : ∀ x, Builtin.«list.sort» ⟨[.ref x], kw⟩ = ksk_tree x f b) :
    wpAny (model prog w) A (call (.builtin "sorted") [.ref r] kw) Q E s := by
  refine call_function_entry_kw kind_sorted plain_sorted entry_sorted ha1 ?_
  unfold Builtin.«sorted»
  refine wpAny_bind (m := checkCount "sorted" 1 1 _) (wpAny_pure ?_)
  refine wpAny_bind (collectKD (A := A.in1) K hh hok hn fun h' tk acc kp hlt hacc => ?_)
  obtain ⟨bs, e, hal, hsk, hL, hu, turn, fin⟩ := hB acc hacc
  refine wpAny_bind (wpAny_newList ?_ (by rw [e.length]; exact hL))
  have hat : (h'.push (seqObj "list" acc.toList.toArray 0)).get? h'.objs.size = some (seqObj "list" acc.toList.toArray 0) := Heap.get?_push_size _ rfl
  have up : ∀ {g : Heap}, KeepsBut h'.objs.size (h'.push (seqObj "list" acc.toList.toArray 0)) g → ∀ b o, s.heap.get? b = some o → g.get? b = some o := fun {g} kp2 b o q =>
    kp2 b o (Nat.ne_of_lt (Heap.lt_size (kp b o q))) (Heap.get?_push_of_some _ (kp b o q))
  refine wpAny_bind (wpAny_holding (wpAny_call_entry_kw slot_list_sort ⟨_, hat, rfl⟩ entry_list_sort ?body (ha2 _)))
  case body =>
    show wpAny (model prog w) A.in1.in1 (Builtin.«list.sort» ⟨[.ref h'.objs.size], kw⟩) _ _ _
    rw [ht]
    refine keyH_tree (kz := bs.map k) (s := { s with heap := h'.push (seqObj "list" acc.toList.toArray 0), toks := tk }) hat (by rw [List.length_map]; exact e.length.symm) (by rw [e.length]; exact hL) hal hsk (bound_map (A := A.in1.in1) hu)
      (keyH_turns (s := { s with heap := h'.push (seqObj "list" acc.toList.toArray 0), toks := tk }) e fun v x hR hx h2 tk2 kp2 => turn v x hR hx h2 tk2 (up kp2)) fun h3 tk3 out c kp3 hD ko => ?_
    exact ⟨_, rfl, wpAny_pure ⟨_, rfl, fin out c h3 tk3 h'.objs.size (up kp3) (Nat.le_of_lt hlt) hD ((ko.length (by rw [List.length_map]; exact e.length.symm)).trans e.length) (keyedOut_each k ko e)⟩⟩
end
end PySem.W

set_option Elab.async false
set_option linter.all false
set_option maxRecDepth 100000
/-! The rules: display, put, walk, sort. -/
namespace Pm
open PySem PySem.Spec PyProof.Rows L2 LamX RZ
def mergeT (acc : KTd) : List (D × D) → Option KTd
  | [] => some acc
  | (k, v) :: r => match keyT k with
    | some ks => mergeT (putT acc ks v) r
    | none => none
theorem mergeT_rep {K : PySem.W.Frag} {F : Hp} : ∀ {vs : List (V × V)} {ps : List (D × D)}, RepPs K F vs ps → ∀ {ks : List (List Key × V)} {acc r : KTd}, RepKT K F ks acc → mergeT acc ps = some r →
    ∃ kvs : List (List Key × Addr × V), vs = kvs.map (fun kv => (V.ref kv.2.1, kv.2.2)) ∧ kvs.length = ps.length ∧ (∀ kv ∈ kvs, F kv.2.1 = some (.tup (kv.1.map kV))) ∧ RepKT K F (mergeKT ks kvs) r
  | _, _, .nil, ks, acc, r, h, e => by cases e; exact ⟨[], rfl, rfl, (fun _ z => nomatch z), h⟩
  | _, _, .cons (y := y) (a := a) (b := b) (ds := ds) hx hy hr, ks, acc, r, h, e => by
    unfold mergeT at e
    cases q : keyT a with
    | none => rw [q] at e; cases e
    | some k =>
      rw [q] at e
      obtain ⟨ad, ex, ea, _⟩ := keyT_rep hx q
      obtain ⟨kvs, e1, e2, e3, e4⟩ := mergeT_rep hr (h.put k hy) e
      refine ⟨(k, ad, y) :: kvs, by rw [e1, ex]; rfl, congrArg Nat.succ e2, fun kv hkv => ?_, e4⟩
      rcases List.mem_cons.mp hkv with z | z
      · rw [z]; exact ea
      · exact e3 kv z
section
variable {T : Type} {C : Ct T} {W : WX} {K : PySem.W.Frag}
/-- a reading of what comes last: the dict is no longer beside the state -/
def SbK (K : PySem.W.Frag) (C : Ct T) (W : WX) (i : Nat) (t : TS) (fl : KTd → M T Out) : Prop := ∀ F0 H0 L s σ F H (E : Ends) p ks kt, Good C F0 H0 L s σ F H → σ[i]? = some (some (.ref p)) → F p = none → H0 p = none → H p = some (.dT ks) → RepKT K F ks kt → PoS C W F0 H0 L F E (fl kt s) → t E σ H
def mOpenK (i : Nat) (fs : List (M T D × M T D)) (f : M (T × KTd) Out) (fl : KTd → M T Out) : M T Out := mBind (mPairs fs) fun ps s => match mergeT [] ps with
  | some kt => if (no9 s.env && decide (ps.length ≤ 15)) = true then (match f ⟨s.env.set i (.pt 9), (s.t, kt)⟩ with
      | .ok .nx s' => if (isP9 s'.env[i]? && no9 (s'.env.set i .un)) = true then fl s'.t.2 ⟨s'.env.set i .un, s'.t.1⟩ else .stuck
      | _ => .stuck) else .stuck
  | none => .stuck
theorem sb_openK (hK : C.K = K) {i : Nat} {trs : List (TE × TE)} {fs : List (M T D × M T D)} {tm tl : TS} {f : M (T × KTd) Out} {fl : KTd → M T Out} (hd : Sps C W trs fs) (hb : ∀ p, Sb (CK K C p) W tm f) (hl : SbK K C W i tl fl) :
    Sb C W (tSeq (tAsg (tDispT trs) (gName i)) (tSeq tm tl)) (mOpenK i fs f fl) := by
  intro F0 H0 L s σ F H E g h p hp
  have t0 : Tmp C H0 s σ F (upd H p (.dT [])) p := Tmp.fresh g hp
  have g1 := (g.alloc (o := .dT []) hp).protect t0 upd_same
  have f0 : F0 p = none := Same.free g.ext0 t0.f
  have pf : p ∉ C.fp := fun z => g.fp0 p z t0.h0
  refine hd _ _ _ _ _ _ _ _ g1 (po_imp (po_hold (pos_bind (σ := σ) h) fun s' F' H' g' e' => (g'.unprotect t0.h0 f0 pf g.lH).1) fun ps s3 F3 H3 g3 e3 h3 vs rs => ?_)
  obtain ⟨g4, t4, hp4⟩ := g3.unprotect t0.h0 f0 pf g.lH
  cases q1 : mergeT [] ps with
  | none => rw [q1] at h3; exact h3.elim
  | some kt =>
    rw [q1] at h3
    dsimp only at h3
    by_cases hc : (no9 s3.env && decide (ps.length ≤ 15)) = true
    · rw [if_pos hc] at h3
      rw [Bool.and_eq_true] at hc
      obtain ⟨kvs, ev, el, ek, er⟩ := mergeT_rep rs .nil q1
      refine ⟨hp4, kvs, ev, fun kv hkv => ?_, by rw [el]; exact of_decide_eq_true hc.2, ?_⟩
      · rcases g4.sub _ _ (ek kv hkv) with z | ⟨⟨ks, z⟩, _⟩
        · exact z
        · cases z
      · have g5 := g4.updTmp (o := .dT (mergeKT [] kvs)) t4
        have t5 : Tmp C H0 s3 σ F3 (upd H3 p (.dT (mergeKT [] kvs))) p := ⟨t4.f, t4.h0, t4.no⟩
        have g6 := g5.openK hK hc.1 i t5 upd_same (by rw [← hK]; exact er)
        refine hb p _ _ _ _ _ _ _ _ g6 ?_
        cases e : f ⟨s3.env.set i (.pt 9), (s3.t, kt)⟩ with
        | stuck => rw [e] at h3; exact h3.elim
        | exc c s' => rw [e] at h3; exact h3.elim
        | ok o s' =>
          rw [e] at h3
          cases o with
          | nx =>
            dsimp only at h3
            by_cases h9 : (isP9 s'.env[i]? && no9 (s'.env.set i .un)) = true
            · rw [if_pos h9] at h3
              rw [Bool.and_eq_true] at h9
              intro σ' F' H' g' e'
              obtain ⟨g7, hσ, hF, ks, hks, hr⟩ := Good.closeK hK g t0.h0 g' (isP9_of h9.1) h9.2
              exact hl _ _ _ _ _ _ _ _ p ks _ g7 hσ hF t0.h0 hks hr (pos_from h3 e')
            · rw [if_neg h9] at h3; exact h3.elim
          | _ => exact h3.elim
    · rw [if_neg hc] at h3; exact h3.elim
/-! ### d[k] = v -/
def mKPut (i : Nat) (fk fv : M (T × KTd) D) : M (T × KTd) Out := mBind fv fun v s1 => if isP9 s1.env[i]? = true then mBind fk (fun k s => match keyT k with
  | some ks => if s.t.2.length < lim then .ok .nx ⟨s.env, (s.t.1, putT s.t.2 ks v)⟩ else .stuck
  | none => .stuck) s1 else .stuck
theorem sb_putK (hK : C.K = K) {p : Addr} {i : Nat} {tk tv : TE} {fk fv : M (T × KTd) D} (hk : Sv (CK K C p) W tk fk) (hv : Sv (CK K C p) W tv fv) : Sb (CK K C p) W (sDPut (tVar i) tk tv) (mKPut i fk fv) := by
  intro F0 H0 L s σ F H E g h
  refine hv _ _ _ _ _ _ _ _ g (po_imp (pos_bind h) fun v s1 F1 H1 g1 e1 h1 y ry => ?_)
  by_cases h9 : isP9 s1.env[i]? = true
  · rw [if_pos h9] at h1
    have z1 : σ[i]? = some (some (.ref (if 9 = 9 then p else C.ptr 9))) := g1.slots i _ (isP9_of h9)
    rw [if_pos rfl] at z1
    refine ⟨.ref p, z1, ?_⟩
    refine hk _ _ _ _ _ _ _ _ g1 (po_imp (pos_bind h1) fun k s2 F2 H2 g2 e2 h2 z rz => ?_)
    cases q1 : keyT k with
    | none => rw [q1] at h2; exact h2.elim
    | some ks =>
      rw [q1] at h2
      dsimp only at h2
      by_cases hl : s2.t.2.length < lim
      · rw [if_pos hl] at h2
        obtain ⟨ad, ez, ea, _⟩ := keyT_rep rz q1
        obtain ⟨j1, j2, kvs, j3, j4⟩ := g2.j
        have ha : H2 ad = some (.tup (ks.map kV)) := by
          rcases g2.sub _ _ ea with z | ⟨⟨ks, z⟩, _⟩
          · exact z
          · cases z
        refine ⟨p, _, rfl, .inr ⟨kvs, ks, ad, j3, ez, ha, by rw [j4.length]; exact Nat.lt_of_lt_of_le hl (lim_ok (Nat.le_refl _)), rfl⟩, ?_⟩
        refine h2 _ _ _ (g2.fpSet (t' := (s2.t.1, putT s2.t.2 ks v)) (s' := s2) (q := p) List.mem_cons_self ?_) (Same.refl _)
        exact ⟨C.stab _ _ _ _ _ j1 (Same.refl _) fun a z => upd_ne fun y : a = p => j2 (y ▸ z), j2, _, upd_same, j4.put ks (ry.mono e2)⟩
      · rw [if_neg hl] at h2; exact h2.elim
  · rw [if_neg h9] at h1; exact h1.elim
/-! ### for k in d -/
def YOkA (K : PySem.W.Frag) (F H : Hp) (x : V) (H3 : Hp) (d : D) : Prop := YOk K F H x H3 d ∨ (H3 = H ∧ ∃ q ks, x = .ref q ∧ H q = some (.tup (ks.map kV)) ∧ d = keyD ks)
structure ItOkA (K : PySem.W.Frag) (F : Hp) (B : Hp → Prop) (J : It) (items : List D) : Prop where
  ok : ∃ (G : Hp → Prop) (Y : Nat → Hp → V → Hp → Prop), Walk J items.length G Y ∧ (∀ F' H', Same F F' → Sub F' H' → B H' → G H') ∧
    ∀ (i : Nat) (x : V) (F' H' H3 : Hp) (d : D), Same F F' → Sub F' H' → items[i]? = some d → Y i H' x H3 → YOkA K F' H' x H3 d
theorem sb_forA_at (hA : NoTup C) {wi : TI} {fi : M T (List D)} {tg : TG} {is : List Nat} {p : D → M T Unit} {t : TS} {f : M T Out} {F0 H0 : Hp} {L : Nat → Option Addr} {s : S T} {σ : L2.St} {F H : Hp} {E : Ends}
    (hi : ∀ R : It → Hp → Prop, Po C W F0 H0 L F σ (fun items _ F' H' => ∀ J, ItOkA C.K F' (Bs C H0) J items → R J H') (fi s) → wi σ H R) (hg : Sg C tg is p) (hb : Sb C W t f) (k : PoS C W F0 H0 L F E (mFor fi p f s)) : tFor wi tg t E σ H := by
  refine hi _ (po_imp (pos_bind k) fun items s1 F1 H1 g1 e1 k1 J it => ?_)
  obtain ⟨G, Y, w, hG, hY⟩ := it.ok
  refine for_it w (fun i σ' H' => ∃ s' F', Good C F0 H0 L s' σ' F' H' ∧ Same F1 F' ∧ PoS C W F0 H0 L F' E (mForL (fun d => mBind (mBlk (p d)) fun _ => f) (items.drop i) s')) ⟨s1, F1, g1, Same.refl _, k1⟩ (fun i σ' H' _ ⟨s', F', g', e', _⟩ => hG F' H' e' g'.sub g'.base) ?_ ?_
  · rintro i x σ2 H2 H3 hi' ⟨s2, F2, g2, e2, k2⟩ y
    have hd : items[i]? = some items[i] := by simp [hi']
    have hdrop : items.drop i = items[i] :: items.drop (i + 1) := List.drop_eq_getElem_cons hi'
    rw [hdrop] at k2
    obtain ⟨F3, g3, e3, r3⟩ : ∃ F3, Good C F0 H0 L s2 σ2 F3 H3 ∧ Same F2 F3 ∧ Rep C.K F3 x items[i] := by
      rcases hY i x F2 H2 H3 _ e2 g2.sub hd y with (⟨rfl, r⟩ | ⟨tp, a, b, da, db, rfl, hn, rfl, ra, rb, ed⟩) | ⟨rfl, q, ks, rfl, hq, ed⟩
      · exact ⟨F2, g2, Same.refl _, r⟩
      · have e := Same.updN (o := HO.tup [a, b]) (g2.sub.nn hn)
        rw [ed]
        exact ⟨_, g2.allocF hn, e, .tup (.inl (.inl upd_same)) (.cons (ra.mono e) (.cons (rb.mono e) .nil))⟩
      · obtain ⟨F3, g3, e3, h3⟩ := g2.adopt hA hq
        rw [ed]
        exact ⟨F3, g3, e3, .tup (.inl (.inl h3)) (rep_keys ks)⟩
    have k3 : PoS C W F0 H0 L F3 E (mBind (mBlk (p items[i])) (fun _ s => mBind f (fun o => match o with
      | .nx => mForL (fun d => mBind (mBlk (p d)) fun _ => f) (items.drop (i + 1))
      | .ct => mForL (fun d => mBind (mBlk (p d)) fun _ => f) (items.drop (i + 1))
      | .bk => mRet .nx
      | .ret v => mRet (.ret v)) s) s2) := by
      have q := pos_from k2 e3
      have eq : ∀ (m : M T Unit) (h : Out → M T Out), mBind (mBind m fun _ => f) h s2 = mBind m (fun _ => mBind f h) s2 := fun m h => by
        unfold mBind
        cases m s2 <;> rfl
      have q' : PoS C W F0 H0 L F3 E (mBind (mBind (mBlk (p items[i])) fun _ => f) (fun o => match o with
        | .nx => mForL (fun d => mBind (mBlk (p d)) fun _ => f) (items.drop (i + 1))
        | .ct => mForL (fun d => mBind (mBlk (p d)) fun _ => f) (items.drop (i + 1))
        | .bk => mRet .nx
        | .ret v => mRet (.ret v)) s2) := q
      rw [eq] at q'
      exact q'
    refine sg_use hg g3 r3 k3 fun s4 σ4 g4 k4 => ?_
    refine hb _ _ _ _ _ _ _ _ g4 (pos_seq k4 (fun s' σ' F' H' k g' e' => ?_) (fun s' σ' F' H' k g' e' => ?_) (fun s' σ' F' H' k g' e' => ?_) (fun d s' v σ' F' H' k g' e' r => ?_))
    · exact ⟨s', F', g', (e2.trans e3).trans e', k⟩
    · exact k σ' F' H' g' (Same.refl _)
    · exact ⟨s', F', g', (e2.trans e3).trans e', k⟩
    · exact k v σ' F' H' g' (Same.refl _) r
  · rintro σ2 H2 ⟨s2, F2, g2, e2, k2⟩
    rw [List.drop_eq_nil_of_le (Nat.le_refl _)] at k2
    exact k2 σ2 F2 H2 g2 (Same.refl _)
def mKFor (i : Nat) (pp : D → M T Unit) (fb : M T Out) : M (T × KTd) Out := fun s => if isP9 s.env[i]? = true then (match mForL (fun d => mBind (mBlk (pp d)) fun _ => fb) (s.t.2.map fun p => keyD p.1) ⟨s.env, s.t.1⟩ with
  | .ok .nx s' => .ok .nx ⟨s'.env, (s'.t, s.t.2)⟩
  | _ => .stuck) else .stuck
theorem sb_forK (hA : NoTup C) (hK : C.K = K) {p : Addr} {i : Nat} {tg : TG} {is : List Nat} {pp : D → M T Unit} {t : TS} {fb : M T Out} (hg : Sg (CP K C p) tg is pp) (hb : Sb (CP K C p) W t fb) : Sb (CK K C p) W (tLock (tFor (iKeys (tVar i)) tg t)) (mKFor i pp fb) := by
  intro F0 H0 L s σ F H E g h
  unfold mKFor at h
  by_cases h9 : isP9 s.env[i]? = true
  · rw [if_pos h9] at h
    have z1 : σ[i]? = some (some (.ref (if 9 = 9 then p else C.ptr 9))) := g.slots i _ (isP9_of h9)
    rw [if_pos rfl] at z1
    obtain ⟨j1, j2, ks, j3, j4⟩ := g.j
    have pfp : p ∉ (CP K C p).fp := j2
    refine ⟨p, .dT ks, j3, trivial, fun od => ?_⟩
    have g1 := g.lockK (ks := ks) od
    have hlen : (s.t.2.map fun p => keyD p.1).length = ks.length := by rw [List.length_map, j4.length]
    refine sb_forA_at (C := CP K C p) (W := W) (noTup_CP hA) (fi := fun s' => .ok (s.t.2.map fun p => keyD p.1) s') (s := ⟨s.env, s.t.1⟩) (F0 := F) (H0 := upd H0 p (.frz od (.dT ks))) (L := L) (F := F) (fun R hR => ?_) hg hb ?_
    · refine ⟨.ref p, z1, p, od, rfl, .inr ⟨ks, upd_same, hR F _ g1 (Same.refl F) _ ⟨_, _, hlen ▸ walk_keysT (d := p) (o := od) (kvs := ks), fun F' H' e u b => b p _ upd_same pfp, fun j x F' H' H3 d e u hd hy => ?_⟩⟩⟩
      obtain ⟨h1, k1, v1, q, h2, h3, h4⟩ := hy
      refine .inr ⟨h1, q, k1, h3, h4, ?_⟩
      have z := j4.get j
      rw [List.getElem?_map] at hd
      rw [h2] at z
      cases q2 : s.t.2[j]? with
      | none => rw [q2] at hd; cases hd
      | some b =>
        rw [q2] at hd z
        have z' : k1 = b.1 := Option.some.inj z
        have hd' : keyD b.1 = d := Option.some.inj hd
        rw [← hd', z']
    · show PoS _ _ _ _ _ _ _ (mForL (fun d => mBind (mBlk (pp d)) fun _ => fb) (s.t.2.map fun p => keyD p.1) ⟨s.env, s.t.1⟩)
      cases q : mForL (fun d => mBind (mBlk (pp d)) fun _ => fb) (s.t.2.map fun p => keyD p.1) ⟨s.env, s.t.1⟩ with
      | stuck => rw [q] at h; exact h.elim
      | exc c s' => rw [q] at h; exact h.elim
      | ok o s' =>
        rw [q] at h
        cases o with
        | nx =>
          intro σ' F' H' g' e'
          obtain ⟨u1, u2⟩ := g.unlockK j4 g'
          exact ⟨u1, h σ' F' _ u2 e'⟩
        | _ => exact h.elim
  · rw [if_neg h9] at h; exact h.elim
end
end Pm

set_option Elab.async false
set_option linter.all false
set_option maxRecDepth 100000
/-! return sorted(d, key=lambda ..), d a dict with tuple keys; the bundled rules. -/
namespace Pm
open PySem PySem.Spec PyProof.Rows L2 LamX RZ
def SortFinT (X : Cx) (q : Str) (params : Arguments) (body : Expr) (scope : Scope) (KeyOk : L2.St → Hp → V → PyData → Prop) (σ : L2.St) (x z : V) (H2 : Hp) (Q : VK) : Prop := ∃ (d f c' : Addr) (ks : List (List Key × V)), x = .ref d ∧ z = .ref f ∧ H2 d = some (.dT ks) ∧
  H2 f = some (lamHO q params body scope (cloFrom X.env.cells scope.names []) c' f) ∧ H2 c' = some (CodeO c' q) ∧ ∀ qs : List Addr, IsKeys H2 ks qs → ∃ bs : List (Addr × PyData), bs.map Prod.fst = qs ∧ (∀ b ∈ bs, KeyOk σ H2 (.ref b.1) b.2) ∧ PySem.W.AllAlike (bs.map Prod.snd) ∧ PySem.W.Sortable (bs.map Prod.snd) ∧ bs.length ≤ 1000000 ∧ (∀ b ∈ bs, b.2.depth ≤ 30) ∧
  ∀ p, H2 p = none → Q (.ref p) (upd H2 p (.lst ((bs.mergeSort (PySem.W.dataLe false Prod.snd)).map fun b => V.ref b.1)))
def tSortKD (X : Cx) (te tl : TE) (q : Str) (params : Arguments) (body : Expr) (scope : Scope) (KeyOk : L2.St → Hp → V → PyData → Prop) : TE := fun σ H Q => te σ H fun x H1 => tl σ H1 fun z H2 => SortFinT X q params body scope KeyOk σ x z H2 Q
section
variable {X : Cx} {pos kpos lpos p : Pos} {e : Expr} {te : TE}
theorem sort_finT {q : Str} {params : Arguments} {body : Expr} {scope : Scope} {KeyOk : L2.St → Hp → V → PyData → Prop} {pins : List (Addr × Obj)} {s : Shared} {σ : L2.St} {H : Hp} {x z : V} {u w : Value} {Q : VK} (hc0 : X.calm = true) (hu : X.A.units + 64 < cLine) (hdp : X.A.depth < recursionLimit) (hb : BodyRun X q params body scope KeyOk) (I : L2.Inv X pins σ H s) (rx : L2.RelV x u) (rz : L2.RelV z w) (h : SortFinT X q params body scope KeyOk σ x z H Q) :
    wpAny (model X.prog X.w) X.A (call (.builtin "sorted") [u] [(Str.ofString "key", w)]) (EP X pins σ Q) X.xe s := by
  obtain ⟨d, f, c', ks0, rfl, rfl, hd, hf, hc, fin⟩ := h
  cases (show u = Value.ref d from rx)
  cases (show w = Value.ref f from rz)
  obtain ⟨z, hs, ks, pr, o, es, ep, ho, hx, hdt, he, hn⟩ := (show ObjOk X.prog X.w H s.heap d (.dT ks0) from I.hok d _ hd)
  have l1 : es.size = ks.length := size_of_entries he
  have l2 : ks0.length = ks.length := Paired.length pr
  obtain ⟨bs, eb, hkey, hal, hso, hlen, hdep, q⟩ := fin _ (isKeys_of pr)
  refine PySem.W.sortedKD (b := false) (R := fun (v : Value) (b : Addr × PyData) => v = .ref b.1) (kdl_raw hs hx hdt) (I.ok.hd hc0) ho (by omega) Prod.snd (fun acc hacc => ?_) (ksk_s1 _ _) (fun _ => ksk_l1 _ _) (fun _ => ksk_t1 _ _)
  have ea : acc.toList = ks.map fun x => Value.ref x.2.1 := by
    have hl : acc.toList.length = ks.length := by rw [Array.length_toList, hacc.1]; exact l1
    apply List.ext_getElem?
    intro j
    rw [List.getElem?_map]
    cases hj : acc.toList[j]? with
    | none =>
      have h1 := List.getElem?_eq_none_iff.mp hj
      rw [List.getElem?_eq_none (by omega)]
      all_goals rfl
    | some v =>
      obtain ⟨en, hen, hv⟩ := hacc.2 j v (by rw [← Array.getElem?_toList]; exact hj)
      have qe := entry_at he j
      rw [hen] at qe
      cases hb : ks[j]? with
      | none =>
        rw [hb] at qe
        exact nomatch (show some en = none from qe)
      | some b =>
        rw [hb] at qe
        have e2 : en = entryOfKey (tupleKind (mixKind X.prog X.w)) b := Option.some.inj qe
        rw [hv, e2]
        all_goals rfl
  have eb2 : acc.toList = bs.map fun b => Value.ref b.1 := by
    rw [ea, show (ks.map fun x => Value.ref x.2.1) = (ks.map fun x => x.2.1).map Value.ref by rw [List.map_map]; rfl, ← eb, List.map_map]
    rfl
  refine ⟨bs, ?_, hal, hso, by rw [sizeLine_eq]; omega, fun b hb' => by have := hdep b hb'; omega, fun v b hR hm h tk kp => hb pins s σ H (.ref b.1) v b.2 f c' _ h tk I (by rw [hR]; rfl) (hkey b hm) hf hc hdp kp, fun out c h' tk a kp hle hD hl eo => ?_⟩
  · rw [eb2]
    clear eb2 eb hkey hal hso hlen hdep q
    induction bs with
    | nil => exact .nil
    | cons b bs ih => exact .cons rfl ih
  · have rv2 : Vals ((bs.mergeSort (PySem.W.dataLe false Prod.snd)).map fun b => V.ref b.1) out := by
      clear hD hl
      generalize bs.mergeSort (PySem.W.dataLe false Prod.snd) = cs at eo
      induction eo with
      | nil => exact .nil
      | cons r1 _ ih => exact .cons r1 ih
    have hlo : out.length ≤ sizeLine := by rw [hl, sizeLine_eq]; omega
    refine ⟨.ref a, _, I.laid (t' := tk) (a := a) kp hle (show ObjOk X.prog X.w _ _ _ (.lst ((bs.mergeSort (PySem.W.dataLe false Prod.snd)).map fun b => V.ref b.1)) from ⟨by rw [rv2.length]; exact hlo, out, c, rv2, hD⟩), rfl, q _ (I.hok.fresh hle)⟩
theorem pe_sortKD {q : Str} {params : Arguments} {body : Expr} {scope : Scope} {tl : TE} {KeyOk : L2.St → Hp → V → PyData → Prop} (hc0 : X.calm = true) (hu : X.A.units + 64 < cLine) (hdp : X.A.depth < recursionLimit) (hm : X.mg "sorted" = none) (he : PE X e te) (hl : PE X (.Lambda params body scope lpos) tl) (hb : BodyRun X q params body scope KeyOk) (hg : Gl X "sorted" := by rfl)
    (hst : backTo pos (starEach [e] X.env) = (false, eval e X.env) :: backTo pos (starEach [] X.env) := by rfl) (hpl : (backTo pos (starEach [e] X.env)).any (·.1) = false := by rfl) (hes : starEach [e] X.env = (false, eval e X.env) :: starEach [] X.env := by rfl) :
    PE X (.Call (.Name "sorted" p) [e] [⟨some "key", .Lambda params body scope lpos, kpos⟩] pos) (tSortKD X te tl q params body scope KeyOk) := by
  refine ⟨fun pins s σ H Q I h => ?_⟩
  refine wpAny_Call_Name_kw (ld_blt I hg hm PyProof.Rows.boot_sorted ?_ (by decide) (by decide))
  refine PyProof.Rows.callWith_kw (thn ((pa_cons he pa_nil hes).run pos pins s σ H (fun vs H1 => match vs with | [x] => tl σ H1 fun z H2 => SortFinT X q params body scope KeyOk σ x z H2 Q | _ => False) I h) fun us s1 ⟨vs, H1, I1, r1, q1⟩ => ?_) hst hpl rfl rfl
  match vs, r1, q1 with
  | [x], r1, q1 =>
    refine thn ((pk_cons hl pk_nil).run pos pins s1 σ H1 (fun zs H2 => match zs with | [z] => SortFinT X q params body scope KeyOk σ x z H2 Q | _ => False) I1 q1) fun ws s2 ⟨zs, H2, I2, r2, q2⟩ => ?_
    match zs, r2, q2 with
    | [z], r2, q2 =>
      obtain ⟨u, eu, rx⟩ := vals1 r1
      obtain ⟨w, ew, rz⟩ := vals1 r2
      subst eu ew
      exact sort_finT hc0 hu hdp hb I2 rx rz q2
end
/-! ### the town's side -/
def mRetSortK {T : Type} (kf : S T → D → Option PyData) (kt : KTd) : M T Out := fun s => match sortD (kf s) (kt.map fun p => keyD p.1) with
  | some r => .ok (.ret (.list r)) s
  | none => .stuck
theorem triplesK {H : Hp} {ks : List (List Key × V)} {qs : List Addr} (h : IsKeys H ks qs) : ∀ {dbs : List (D × PyData)}, dbs.map Prod.fst = ks.map (fun p => keyD p.1) → ∃ zs : List (Addr × D × PyData), zs.map (fun z => z.1) = qs ∧ zs.map (fun z => z.2) = dbs ∧ ∀ z ∈ zs, ∃ k : List Key, H z.1 = some (.tup (k.map kV)) ∧ z.2.1 = keyD k := by
  unfold IsKeys at h
  induction h with
  | nil =>
    intro dbs e
    rw [List.map_nil] at e
    rw [List.map_eq_nil_iff.mp e]
    exact ⟨[], rfl, rfl, fun _ z => nomatch z⟩
  | @cons p b ps bs hb _ ih =>
    intro dbs e
    cases dbs with
    | nil => cases e
    | cons d dbs =>
      rw [List.map_cons, List.map_cons] at e
      injection e with e1 e2
      obtain ⟨zs, z1, z2, z3⟩ := ih e2
      refine ⟨(b, d) :: zs, by rw [List.map_cons, z1], by rw [List.map_cons, z2], fun z hz => ?_⟩
      rcases List.mem_cons.mp hz with y | y
      · rw [y]; exact ⟨p.1, hb, e1⟩
      · exact z3 z y
theorem RepKT.keys {K : PySem.W.Frag} {F : Hp} {ks : List (List Key × V)} {ds : KTd} (h : RepKT K F ks ds) : ds.map (fun p => keyD p.1) = ks.map (fun p => keyD p.1) := by
  induction h with
  | nil => rfl
  | cons _ _ ih => rw [List.map_cons, List.map_cons, ih]
theorem adoptAll {T : Type} {C : Ct T} {F0 H0 : Hp} {L : Nat → Option Addr} {s : S T} {σ : L2.St} {H : Hp} (hA : NoTup C) : ∀ (qs : List Addr) {F : Hp}, Good C F0 H0 L s σ F H → ∃ F', Good C F0 H0 L s σ F' H ∧ Same F F' ∧ ∀ q ∈ qs, ∀ xs, H q = some (.tup xs) → F' q = some (.tup xs)
  | [], F, g => ⟨F, g, Same.refl _, fun _ z => nomatch z⟩
  | q :: qs, F, g => by
    by_cases hq : ∃ xs, H q = some (.tup xs)
    · obtain ⟨xs, hq⟩ := hq
      obtain ⟨F1, g1, e1, h1⟩ := g.adopt hA hq
      obtain ⟨F2, g2, e2, h2⟩ := adoptAll hA qs g1
      refine ⟨F2, g2, e1.trans e2, fun r hr ys hy => ?_⟩
      rcases List.mem_cons.mp hr with z | z
      · subst z
        rw [hq] at hy; cases hy
        exact e2 _ _ h1
      · exact h2 r z ys hy
    · obtain ⟨F2, g2, e2, h2⟩ := adoptAll hA qs g
      refine ⟨F2, g2, e2, fun r hr ys hy => ?_⟩
      rcases List.mem_cons.mp hr with z | z
      · subst z; exact absurd ⟨ys, hy⟩ hq
      · exact h2 r z ys hy
section
variable {K : PySem.W.Frag} {cls : Nat → Addr} {a p : Addr} {W : WX} {X : Cx} {P : Addr} {q : Str} {params : Arguments} {body : Expr} {scope : Scope} {kf : S Town → D → Option PyData} {kc : PyData → Prop} {KeyOk : L2.St → Hp → V → PyData → Prop}
theorem sbk_sort {i : Nat} (hX : X.K = K) (hm : (P, q) ∈ tabs cls) (hu : ∀ r ∈ tabs cls, r.1 = P → r.2 = q) (hkc : KindK kc) (hkf : ∀ s d k, kf s d = some k → kc k)
    (hk : ∀ (F0 H0 : Hp) (L : Nat → Option Addr) (s : S Town) (σ : L2.St) (F H : Hp) (x : V) (d : D) (k : PyData), Good (CT K cls a p) F0 H0 L s σ F H → Rep K F x d → kf s d = some k → KeyOk σ H x k) :
    SbK K (CT K cls a p) W i (tRet (tSortKD X (tVar i) (tLm X P q params body scope) q params body scope KeyOk)) (mRetSortK kf) := by
  intro F0 H0 L s σ F H E dp ks kt g1 hσ hF h0 hdp r h1
  unfold mRetSortK at h1
  cases q1 : sortD (kf s) (kt.map fun p => keyD p.1) with
  | none => rw [q1] at h1; exact h1.elim
  | some out =>
    rw [q1] at h1
    unfold sortD at q1
    by_cases hlen : (kt.map fun p => keyD p.1).length ≤ 1000000
    · rw [if_pos hlen] at q1
      cases q2 : keysD (kf s) (kt.map fun p => keyD p.1) with
      | none => rw [q2] at q1; cases q1
      | some dbs =>
        rw [q2] at q1
        cases q1
        obtain ⟨eb, hbk⟩ := keysD_spec q2
        obtain ⟨ps, hP, ht, hcs⟩ := g1.j.2.of hm
        refine ⟨.ref dp, hσ, ps, hP, ht, fun pos cv hc => ?_, fun f c' H1' hf hc' cs => ?_⟩
        · obtain ⟨c, e1, e2⟩ := hcs pos cv hc
          refine ⟨c, e1, ?_⟩
          rcases g1.sub c _ e2 with y | ⟨⟨ks, y⟩, _⟩
          · exact y
          · cases y
        · obtain ⟨F2, g2, e2⟩ : ∃ F2, Good (CT K cls a p) F0 H0 L s σ F2 H1' ∧ Same F F2 := by
            rcases cs with rfl | ⟨hcn, ps', rfl, ht', ha'⟩
            · exact ⟨F, g1, Same.refl _⟩
            · exact ⟨_, g1.table hm hu hP hcn ht' ha', Same.updN (g1.sub.nn hcn)⟩
          have hd1 : H1' dp = some (.dT ks) := by
            rcases cs with rfl | ⟨hcn, ps', rfl, _, _⟩
            · exact hdp
            · rw [upd_ne (ne_of_none hdp hcn), upd_ne (fun z : dp = P => by rw [z, hP] at hdp; cases hdp)]
              exact hdp
          have g3 := g2.alloc (o := lamHO q params body scope (cloFrom X.env.cells scope.names []) c' f) hf
          refine ⟨dp, f, c', ks, rfl, rfl, by rw [upd_ne (ne_of_none hd1 hf)]; exact hd1, upd_same, by rw [upd_ne (ne_of_none hc' hf)]; exact hc', fun qs hqs => ?_⟩
          obtain ⟨zs, z1, z2, z3⟩ := triplesK hqs (dbs := dbs) (by rw [eb, r.keys])
          have mz : ∀ z ∈ zs, z.2 ∈ dbs := fun z hz => by rw [← z2]; exact List.mem_map.mpr ⟨z, hz, rfl⟩
          have e5 : (zs.map fun z => (z.1, z.2.2)).mergeSort (PySem.W.dataLe false Prod.snd) = (zs.mergeSort (PySem.W.dataLe false fun z => z.2.2)).map fun z => (z.1, z.2.2) :=
            (List.map_mergeSort (r := PySem.W.dataLe false fun z : Addr × D × PyData => z.2.2) (s := PySem.W.dataLe false (Prod.snd : Addr × PyData → PyData)) (f := fun z => (z.1, z.2.2)) (l := zs) (fun _ _ _ _ => rfl)).symm
          have e6 : dbs.mergeSort (PySem.W.dataLe false Prod.snd) = (zs.mergeSort (PySem.W.dataLe false fun z => z.2.2)).map fun z => z.2 := by
            rw [← z2]
            exact (List.map_mergeSort (r := PySem.W.dataLe false fun z : Addr × D × PyData => z.2.2) (s := PySem.W.dataLe false (Prod.snd : D × PyData → PyData)) (f := fun z => z.2) (l := zs) (fun _ _ _ _ => rfl)).symm
          refine ⟨zs.map fun z => (z.1, z.2.2), by rw [List.map_map]; exact z1, fun b hb => ?_, ?_, ?_, ?_, fun b hb => ?_, fun p2 hp2 => ?_⟩
          · obtain ⟨z, hz, rfl⟩ := List.mem_map.mp hb
            obtain ⟨k, k1, k2⟩ := z3 z hz
            obtain ⟨F3, g4, e3, h3⟩ := g3.adopt (noTup_CT K cls a p) k1
            have rz : Rep K F3 (.ref z.1) z.2.1 := by rw [k2]; exact .tup (.inl (.inl h3)) (rep_keys k)
            exact hk _ _ _ _ _ _ _ _ _ _ g4 rz (hbk _ (mz z hz))
          · intro d1 hd1 d2 hd2
            simp only [List.map_map, List.mem_map] at hd1 hd2
            obtain ⟨y1, hy1, rfl⟩ := hd1
            obtain ⟨y2, hy2, rfl⟩ := hd2
            exact hkc.1 _ _ (hkf _ _ _ (hbk _ (mz _ hy1))) (hkf _ _ _ (hbk _ (mz _ hy2)))
          · refine hkc.2.1 _ fun k hk => ?_
            simp only [List.map_map, List.mem_map] at hk
            obtain ⟨y1, hy1, rfl⟩ := hk
            exact hkf _ _ _ (hbk _ (mz _ hy1))
          · rw [List.length_map]
            have l1 := congrArg List.length z2
            have l2 := congrArg List.length eb
            rw [List.length_map] at l1 l2
            omega
          · obtain ⟨z, hz, rfl⟩ := List.mem_map.mp hb
            exact hkc.2.2 _ (hkf _ _ _ (hbk _ (mz z hz)))
          · rw [e5, List.map_map]
            obtain ⟨F4, g4, e4, h4⟩ := adoptAll (noTup_CT K cls a p) qs g3
            have eu := Same.updN (o := HO.lst ((zs.mergeSort (PySem.W.dataLe false fun z => z.2.2)).map fun z => V.ref z.1)) (g4.sub.nn hp2)
            refine h1 _ σ (upd F4 p2 (.lst ((zs.mergeSort (PySem.W.dataLe false fun z => z.2.2)).map fun z => V.ref z.1))) _ (g4.allocF hp2) ((e2.trans e4).trans eu) (.lst upd_same ?_)
            show RepL _ _ _ (List.map Prod.fst (dbs.mergeSort (PySem.W.dataLe false Prod.snd)))
            rw [e6, List.map_map]
            refine RepL.maps fun z hz => ?_
            have hz' := (List.mergeSort_perm zs _).mem_iff.mp hz
            obtain ⟨k, k1, k2⟩ := z3 z hz'
            have hq : z.1 ∈ qs := by rw [← z1]; exact List.mem_map.mpr ⟨z, hz', rfl⟩
            show Rep K _ (.ref z.1) z.2.1
            rw [k2]
            exact .tup (.inl (.inl (eu _ _ (h4 _ hq _ k1)))) (rep_keys k)
    · rw [if_neg hlen] at q1; cases q1
end
end Pm

set_option Elab.async false
set_option linter.all false
set_option maxRecDepth 100000
/-! The bundled rules of a dict with tuple keys. -/
namespace Pm
open PySem PySem.Spec PyProof.Rows L2 LamX RZ
section
variable {T : Type} {X : Cx} {C : Ct T} {W : WX} {k : Nat} {cls : Nat → Addr} {K : PySem.W.Frag} {a b c e : Expr} {pos : Pos} {tb tc : TE}
theorem CurB.ck {bb : Bool} (q : CurB bb X C W k cls K) (p : Addr) : CurB bb X (CK K C p) W k cls K := ⟨q.un, q.hX, rfl, q.nd, q.hc, q.co⟩
theorem CurB.cp {bb : Bool} (q : CurB bb X C W k cls K) (p : Addr) : CurB bb X (CP K C p) W k cls K := ⟨q.un, q.hX, rfl, q.nd, q.hc, q.co⟩
theorem ds_putK {p : Addr} {fb fc : M (T × KTd) D} {pos' : Pos} (q : Cur X C W k cls K) (i : Nat) (ha : PE X a (tVar i)) (hb : DV X (CK K C p) W b tb fb) (hc : DV X (CK K C p) W c tc fc) (hs : swapsWith c (some (.Subscript a b pos')) pos.line X.env = pure false := by rfl) : DS X (CK K C p) W (.Assign [.Subscript a b pos'] c pos) (sDPut (tVar i) tb tc) (mKPut i fb fc) :=
  ⟨ps_dput (by have := q.un; omega) ha hb.pe hc.pe hs, sb_putK q.hK hb.sv hc.sv⟩
theorem ds_forK {p : Addr} {tg iter : Expr} {body : List Stmt} {g : TG} {is : List Nat} {fg : D → M T Unit} {t : TS} {f : M T Out} (i : Nat) (q : Cur X C W k cls K) (hA : NoTup C) (hp : PassesOwn (model X.prog X.w) X.A X.env X.xe) (hi : PE X iter (tVar i)) (hg : DG X (CP K C p) tg g is fg) (hb : DSs X (CP K C p) W body t f)
    (hs : ∀ x, foldedSetIterable iter X.env x = pure x := by intro _; rfl) : DS X (CK K C p) W (.For tg iter body [] pos) (tLock (tFor (iKeys (tVar i)) g t)) (mKFor i fg f) := ⟨ps_lock (ps_for hp q.calm (pi_keys hi) hg.pe hb.pe hs), sb_forK hA q.hK hg.sv hb.sv⟩
structure LastK (X : Cx) (K : PySem.W.Frag) (C : Ct T) (W : WX) (i : Nat) (st : Stmt) (t : TS) (fl : KTd → M T Out) : Prop where
  pe : PS X st t
  sv : SbK K C W i t fl
theorem LastK.less {i : Nat} {st : Stmt} {t : TS} {fl fl' : KTd → M T Out} (h : LastK X K C W i st t fl) (k : ∀ kt s, fl' kt s = .stuck ∨ fl' kt s = fl kt s) : LastK X K C W i st t fl' := ⟨h.pe, fun F0 H0 L s σ F H E p ks kt g hs hf h0 hp r q => by
  rcases k kt s with e | e
  · rw [e] at q; exact q.elim
  · rw [e] at q; exact h.sv _ _ _ _ _ _ _ _ _ _ _ g hs hf h0 hp r q⟩
theorem dss_openK4 {y : Str} {py dpos apos : Pos} {keys : List (Option Expr)} {values : List Expr} {trs : List (TE × TE)} {fs : List (M T D × M T D)} {st1 st2 st3 st4 stl : Stmt} {t1 t2 t3 t4 tl : TS} {f1 f2 f3 f4 : M (T × KTd) Out} {fl : KTd → M T Out} (i : Nat) (q : Cur X C W k cls K) (hd : DPs X C W dpos keys values trs fs)
    (h1 : ∀ p, Cur X (CK K C p) W k cls K → DS X (CK K C p) W st1 t1 f1) (h2 : ∀ p, Cur X (CK K C p) W k cls K → DS X (CK K C p) W st2 t2 f2) (h3 : ∀ p, Cur X (CK K C p) W k cls K → DS X (CK K C p) W st3 t3 f3) (h4 : ∀ p, Cur X (CK K C p) W k cls K → DS X (CK K C p) W st4 t4 f4) (hl : LastK X K C W i stl tl fl)
    (hN : X.N[i]? = some y := by rfl) (hx : Loc X.env.scope y := by first | exact Or.inl rfl | exact Or.inr rfl) (hall : keys.all (·.isSome) = true := by rfl) (hle : keys.length = values.length := by rfl) (h0 : keys ≠ [] := by exact List.cons_ne_nil _ _) (h15 : keys.length ≤ 15 := by decide)
    (hs : swapsWith (.Dict keys values dpos) (some (.Name y py)) apos.line X.env = pure false := by rfl) (hf : X.fn y = true ∨ X.env.scope.names.lookup y = some .local := by first | exact .inl rfl | exact .inr rfl) :
    DSs X C W (.Assign [.Name y py] (.Dict keys values dpos) apos :: st1 :: st2 :: st3 :: st4 :: [stl]) (tSeq (tAsg (tDispT trs) (gName i)) (tSeq (tSeq t1 (tSeq t2 (tSeq t3 t4))) tl)) (mOpenK i fs (mSeq f1 (mSeq f2 (mSeq f3 f4))) fl) := by
  refine ⟨?_, sb_openK q.hK hd.sv (fun p => sb_seq (h1 p (q.ck p)).sv (sb_seq (h2 p (q.ck p)).sv (sb_seq (h3 p (q.ck p)).sv (h4 p (q.ck p)).sv))) hl.sv⟩
  have h := pss_cons (ps_set q.nd hN hx (pe_dispT (by have := q.un; omega) hd.pe hall hle h0 h15) hs hf) (pss_cons (h1 0 (q.ck 0)).pe (pss_cons (h2 0 (q.ck 0)).pe (pss_cons (h3 0 (q.ck 0)).pe (pss_cons (h4 0 (q.ck 0)).pe (pss_one hl.pe)))))
  exact h
end
/-! ### the last statement -/
section
variable {K : PySem.W.Frag} {cls : Nat → Addr} {C : Ct Town} {W : WX} {X : Cx} {k : Nat} {c P : Addr} {q : Str} {params : Arguments} {scope : Scope} {pos kpos lpos rpos p : Pos}
theorem noTup_CTs (hC : CTs K cls C) : NoTup C := by
  obtain ⟨a, pp, rfl⟩ := hC
  exact noTup_CT K cls a pp
theorem keyFP_some {T : Type} {iw : Nat} {s : S T} {d : D} {k : PyData} (h : keyFP iw s d = some k) : ∃ wh, s.env[iw]? = some (.fz (.int wh)) ∧ keyPD wh d = some k := by
  unfold keyFP at h
  cases e : s.env[iw]? with
  | none => rw [e] at h; cases h
  | some x =>
    rw [e] at h
    cases x with
    | fz d' =>
      cases d' with
      | int wh => exact ⟨wh, rfl, h⟩
      | _ => cases h
    | _ => cases h
theorem keyPD_some {wh : Int} {d : D} {k : PyData} (h : keyPD wh d = some k) : ∃ n d' rest, d = .tuple (.int n :: .int d' :: rest) ∧ (divOk d' && mulOk n (wh / d')) = true ∧ k = .int (n * (wh / d')) := by
  unfold keyPD at h
  split at h
  · rename_i n d' rest
    by_cases c : (divOk d' && mulOk n (wh / d')) = true
    · rw [if_pos c] at h; cases h; exact ⟨n, d', rest, rfl, c, rfl⟩
    · rw [if_neg c] at h; cases h
  · cases h
theorem lastK_sortP {x y : Str} {p1 p2 p3 p4 p5 p6 p7 p8 p9 p10 : Pos} {k1 k2 : Nat} {mn : Str} (i iw : Nat) (qq : Cur X C W k cls K) (hC : CTs K cls C) (S : Lam1 q params scope x) (TB : TabB X.base X.mg c P) (hm : (P, q) ∈ tabs cls) (hu : ∀ r ∈ tabs cls, r.1 = P → r.2 = q) (hs : X.mg "sorted" = none) (hi : PE X (.Name mn p10) (tVar i)) (hcode : X.env.code = .ref c := by rfl) (hq : X.env.qual ++ "<lambda>" = q := by rfl) (hdef : defaultsOf params X.env = ([], []) := by rfl)
    (hfr : scope.names.all (fun z => decide (z.2 ≠ .free) || decide (X.env.scope.names.lookup z.1 = some .cell)) = true := by rfl) (hd : (x == ("__debug__" : Str)) = false := by decide)
    (hN : X.N[iw]? = some y := by rfl) (hy : scope.names.lookup y = some .free := by rfl) (hXc : X.env.scope.names.lookup y = some .cell ∨ X.env.scope.names.lookup y = some .free := by first | exact .inl rfl | exact .inr rfl) (hdy : (y == ("__debug__" : Str)) = false := by decide) (hcd : (y == ("__classdict__" : Str)) = false := by decide) (hg : Gl X "sorted" := by rfl)
    (hst : backTo pos (starEach [.Name mn p10] X.env) = (false, eval (.Name mn p10) X.env) :: backTo pos (starEach [] X.env) := by rfl) (hpl : (backTo pos (starEach [.Name mn p10] X.env)).any (·.1) = false := by rfl) (hes : starEach [.Name mn p10] X.env = (false, eval (.Name mn p10) X.env) :: starEach [] X.env := by rfl) :
    LastK X K C W i (.Return (some (.Call (.Name "sorted" p) [.Name mn p10] [⟨some "key", .Lambda params (.BinOp (.Subscript (.Name x p1) (.Constant (.int 0) k1 p2) p3) .Mult (.BinOp (.Name y p4) .FloorDiv (.Subscript (.Name x p5) (.Constant (.int 1) k2 p6) p7) p8) p9) scope lpos, kpos⟩] pos)) rpos)
      (tRet (tSortKD X (tVar i) (tLm X P q params (.BinOp (.Subscript (.Name x p1) (.Constant (.int 0) k1 p2) p3) .Mult (.BinOp (.Name y p4) .FloorDiv (.Subscript (.Name x p5) (.Constant (.int 1) k2 p6) p7) p8) p9) scope) q params (.BinOp (.Subscript (.Name x p1) (.Constant (.int 0) k1 p2) p3) .Mult (.BinOp (.Name y p4) .FloorDiv (.Subscript (.Name x p5) (.Constant (.int 1) k2 p6) p7) p8) p9) scope (KeyP X.K iw)))
      (mRetSortK (keyFP iw)) := by
  refine ⟨ps_ret (pe_sortKD qq.calm qq.un qq.hr.depth hs hi (pe_lam TB hcode hq hdef fun z hz e => ?_) (body_part S hd hN hy hXc hdy hcd) hg hst hpl hes), ?_⟩
  · have h1 := List.all_eq_true.mp hfr z hz
    rw [Bool.or_eq_true] at h1
    rcases h1 with h1 | h1
    · exact absurd e (of_decide_eq_true h1)
    · exact .inl (of_decide_eq_true h1)
  · obtain ⟨a, pp, rfl⟩ := hC
    refine sbk_sort qq.hX hm hu kindI (fun s d k h => ?_) (fun F0 H0 L s σ F H x d k g r h => ?_)
    · obtain ⟨wh, _, h2⟩ := keyFP_some h
      obtain ⟨n, d', rest, rfl, hok, rfl⟩ := keyPD_some h2
      exact ⟨_, rfl⟩
    · obtain ⟨wh, hw, h2⟩ := keyFP_some h
      obtain ⟨n, d', rest, rfl, hok, rfl⟩ := keyPD_some h2
      obtain ⟨v, hv, rv⟩ := g.slots iw _ hw
      cases rv
      rw [Bool.and_eq_true] at hok
      cases r with
      | tup hx rl =>
        cases rl with
        | cons r1 rl =>
          cases rl with
          | cons r2 rl =>
            cases r1
            cases r2
            exact ⟨_, n, d', wh, _, rfl, by rw [qq.hX]; exact g.sub.tup hx, hv, divOk.ok hok.1, mulOk.ok hok.2, rfl⟩
end
/-! ### for the kernel -/
def mRetSortKI {T : Type} (kf : S T → D → Option PyData) (kt : KTd) : M T Out := fun s => match sortDI (kf s) (kt.map fun p => keyD p.1) with
  | some r => .ok (.ret (.list r)) s
  | none => .stuck
theorem lastK_I {X : Cx} {K : PySem.W.Frag} {C : Ct Town} {W : WX} {i : Nat} {st : Stmt} {t : TS} {kf : S Town → D → Option PyData} (h : LastK X K C W i st t (mRetSortK kf)) : LastK X K C W i st t (mRetSortKI kf) := h.less fun kt s => by
  unfold mRetSortKI mRetSortK
  cases q : sortDI (kf s) (kt.map fun p => keyD p.1) with
  | none => exact .inl rfl
  | some r => rw [sortDI_of q]; exact .inr rfl
end Pm

set_option Elab.async false
set_option linter.all false
set_option maxRecDepth 100000
/-! (x, ..) * n. -/
namespace Pm
open PySem L2 RZ
def opMulT : D → D → Option D
  | .tuple (x :: xs), .int k => if 2 ≤ k ∧ k ≤ 1000 ∧ xs.length + 1 ≤ 1000 then some (.tuple (List.replicate k.toNat (x :: xs)).flatten) else none
  | _, _ => none
section
variable {T : Type} {C : Ct T} {W : WX} {X : Cx} {k : Nat} {cls : Nat → Addr} {K : PySem.W.Frag} {a b : Expr} {ta tb : TE} {fa fb : M T D} {pos : Pos}
theorem rv_mulT : Rv C (rRepT C.K) opMulT := by
  intro F0 H0 L s σ F H x y a b Q g rx ry h
  cases rx with
  | tup hx r =>
    rename_i p xs ds
    cases ds with
    | nil => exact h.elim
    | cons d ds =>
      cases ry with
      | int n =>
        dsimp only [opMulT] at h
        by_cases hc : 2 ≤ n ∧ n ≤ 1000 ∧ ds.length + 1 ≤ 1000
        · rw [if_pos hc] at h
          have hlen := r.length
          rw [List.length_cons] at hlen
          refine ⟨p, n, xs, rfl, rfl, g.sub.tup hx, fun z => ?_, hc.1, hc.2.1, by omega, fun l hl => ?_⟩
          · rw [z] at hlen; simp at hlen
          · have e1 := Same.updN (o := HO.tup (List.replicate n.toNat xs).flatten) (g.sub.nn hl)
            exact h _ _ _ (g.allocF hl) e1 (.tup (.inl (.inl upd_same)) ((r.mono e1).repl n.toNat))
        · rw [if_neg hc] at h; exact h.elim
      | _ => exact h.elim
  | _ => exact h.elim
theorem dv_mulT {bb : Bool} (q : CurB bb X C W k cls K) (ha : DV X C W a ta fa) (hb : DV X C W b tb fb) : DV X C W (.BinOp a .Mult b pos) (tOp (rRepT K) ta tb) (mOp opMulT fa fb) := ⟨by rw [← q.hX]; exact pe_op op_repT ha.pe hb.pe, by rw [← q.hK]; exact sv_op ha.sv hb.sv rv_mulT⟩
end
end Pm

set_option Elab.async false
set_option linter.all false
set_option maxRecDepth 100000
set_option maxHeartbeats 4000000
namespace Pm
open PySem L2 RZ LamX
def top (i : Nat) : Stmt := PySem.Challenge.pw_racerows_k04_water_refused.main.body.getD i (.Pass ⟨0, 0, 0, 0⟩)

abbrev s_is_whole : Stmt := top 25
abbrev N_is_whole : List Str := ["thing", "least", "most"]
theorem sc_is_whole : FnScope N_is_whole ["thing", "least", "most"] (defScope s_is_whole) := ⟨rfl, rfl, rfl, by decide +kernel, rfl, by decide +kernel, by decide +kernel⟩
abbrev s_common : Stmt := top 26
abbrev N_common : List Str := ["one", "other"]
theorem sc_common : FnScope N_common ["one", "other"] (defScope s_common) := ⟨rfl, rfl, rfl, by decide +kernel, rfl, by decide +kernel, by decide +kernel⟩
abbrev s_share : Stmt := top 27
abbrev N_share : List Str := ["top", "below", "part"]
theorem sc_share : FnScope N_share ["top", "below"] (defScope s_share) := ⟨rfl, rfl, rfl, by decide +kernel, rfl, by decide +kernel, by decide +kernel⟩
abbrev s_is_share : Stmt := top 28
abbrev N_is_share : List Str := ["thing", "one"]
theorem sc_is_share : FnScope N_is_share ["thing"] (defScope s_is_share) := ⟨rfl, rfl, rfl, by decide +kernel, rfl, by decide +kernel, by decide +kernel⟩
abbrev s_plus : Stmt := top 29
abbrev N_plus : List Str := ["one", "other"]
theorem sc_plus : FnScope N_plus ["one", "other"] (defScope s_plus) := ⟨rfl, rfl, rfl, by decide +kernel, rfl, by decide +kernel, by decide +kernel⟩
abbrev s_minus : Stmt := top 30
abbrev N_minus : List Str := ["one", "other"]
theorem sc_minus : FnScope N_minus ["one", "other"] (defScope s_minus) := ⟨rfl, rfl, rfl, by decide +kernel, rfl, by decide +kernel, by decide +kernel⟩
abbrev s_times : Stmt := top 31
abbrev N_times : List Str := ["one", "other"]
theorem sc_times : FnScope N_times ["one", "other"] (defScope s_times) := ⟨rfl, rfl, rfl, by decide +kernel, rfl, by decide +kernel, by decide +kernel⟩
abbrev s_less : Stmt := top 32
abbrev N_less : List Str := ["one", "other"]
theorem sc_less : FnScope N_less ["one", "other"] (defScope s_less) := ⟨rfl, rfl, rfl, by decide +kernel, rfl, by decide +kernel, by decide +kernel⟩
abbrev s_is_tide : Stmt := top 33
abbrev N_is_tide : List Str := ["thing", "one", "other"]
theorem sc_is_tide : FnScope N_is_tide ["thing"] (defScope s_is_tide) := ⟨rfl, rfl, rfl, by decide +kernel, rfl, by decide +kernel, by decide +kernel⟩
abbrev s_water : Stmt := top 34
abbrev N_water : List Str := ["tide", "at", "first", "low", "last", "high", "far"]
theorem sc_water : FnScope N_water ["tide", "at"] (defScope s_water) := ⟨rfl, rfl, rfl, by decide +kernel, rfl, by decide +kernel, by decide +kernel⟩
abbrev s_height_at : Stmt := top 35
abbrev N_height_at : List Str := ["tide", "at"]
theorem sc_height_at : FnScope N_height_at ["tide", "at"] (defScope s_height_at) := ⟨rfl, rfl, rfl, by decide +kernel, rfl, by decide +kernel, by decide +kernel⟩
abbrev s_moments : Stmt := top 36
abbrev N_moments : List Str := ["tide", "low", "start", "end", "made", "one", "first", "last", "other", "at", "whole"]
theorem sc_moments : FnScope N_moments ["tide", "low", "start", "end"] (defScope s_moments) := ⟨rfl, rfl, rfl, by decide +kernel, rfl, by decide +kernel, by decide +kernel⟩
abbrev s_deep : Stmt := top 37
abbrev N_deep : List Str := ["tide", "low", "start", "end", "row", "made", "first", "at", "here", "good", "ending", "middle"]
theorem sc_deep : FnScope N_deep ["tide", "low", "start", "end"] (defScope s_deep) := ⟨rfl, rfl, rfl, by decide +kernel, rfl, by decide +kernel, by decide +kernel⟩
abbrev s_is_point : Stmt := top 41
abbrev N_is_point : List Str := ["thing"]
theorem sc_is_point : FnScope N_is_point ["thing"] (defScope s_is_point) := ⟨rfl, rfl, rfl, by decide +kernel, rfl, by decide +kernel, by decide +kernel⟩
abbrev s_is_track : Stmt := top 42
abbrev N_is_track : List Str := ["thing", "one", "other"]
theorem sc_is_track : FnScope N_is_track ["thing"] (defScope s_is_track) := ⟨rfl, rfl, rfl, by decide +kernel, rfl, by decide +kernel, by decide +kernel⟩
abbrev s_is_gate : Stmt := top 43
abbrev N_is_gate : List Str := ["thing", "one"]
theorem sc_is_gate : FnScope N_is_gate ["thing"] (defScope s_is_gate) := ⟨rfl, rfl, rfl, by decide +kernel, rfl, by decide +kernel, by decide +kernel⟩
abbrev s_is_course : Stmt := top 44
abbrev N_is_course : List Str := ["thing", "one"]
theorem sc_is_course : FnScope N_is_course ["thing"] (defScope s_is_course) := ⟨rfl, rfl, rfl, by decide +kernel, rfl, by decide +kernel, by decide +kernel⟩
abbrev s_side : Stmt := top 45
abbrev N_side : List Str := ["gate", "x", "y"]
theorem sc_side : FnScope N_side ["gate", "x", "y"] (defScope s_side) := ⟨rfl, rfl, rfl, by decide +kernel, rfl, by decide +kernel, by decide +kernel⟩
abbrev s_is_on : Stmt := top 46
abbrev N_is_on : List Str := ["gate", "x", "y", "below", "wide", "high", "part"]
theorem sc_is_on : FnScope N_is_on ["gate", "x", "y", "below"] (defScope s_is_on) := ⟨rfl, rfl, rfl, by decide +kernel, rfl, by decide +kernel, by decide +kernel⟩
abbrev s_all_crossings : Stmt := top 47
abbrev N_all_crossings : List Str := ["track", "gate", "made", "last", "one", "other", "here", "there", "below", "part", "x", "y", "time"]
theorem sc_all_crossings : FnScope N_all_crossings ["track", "gate"] (defScope s_all_crossings) := ⟨rfl, rfl, rfl, by decide +kernel, rfl, by decide +kernel, by decide +kernel⟩
abbrev s_crossings : Stmt := top 48
abbrev N_crossings : List Str := ["track", "gate"]
theorem sc_crossings : FnScope N_crossings ["track", "gate"] (defScope s_crossings) := ⟨rfl, rfl, rfl, by decide +kernel, rfl, by decide +kernel, by decide +kernel⟩
abbrev s_start_of : Stmt := top 49
abbrev N_start_of : List Str := ["some", "gun", "count", "early", "time", "way"]
theorem sc_start_of : FnScope N_start_of ["some", "gun"] (defScope s_start_of) := ⟨rfl, rfl, rfl, by decide +kernel, rfl, by decide +kernel, by decide +kernel⟩
abbrev s_sailed : Stmt := top 50
abbrev N_sailed : List Str := ["track", "course", "gun", "start", "early", "now", "many", "gate", "later", "time", "way"]
theorem sc_sailed : FnScope N_sailed ["track", "course", "gun"] (defScope s_sailed) := ⟨rfl, rfl, rfl, by decide +kernel, rfl, by decide +kernel, by decide +kernel⟩
abbrev s__law_draw : Stmt := top 52
abbrev N__law_draw : List Str := ["_law_script", "_law_town", "_law_many", "_law_one", "_law_at", "_law_mixed"]
theorem sc__law_draw : FnScope N__law_draw ["_law_script", "_law_town", "_law_many"] (defScope s__law_draw) := ⟨rfl, rfl, rfl, by decide +kernel, rfl, by decide +kernel, by decide +kernel⟩
abbrev s__law_pick : Stmt := top 53
abbrev N__law_pick : List Str := ["_law_script", "_law_town", "_law_some"]
theorem sc__law_pick : FnScope N__law_pick ["_law_script", "_law_town", "_law_some"] (defScope s__law_pick) := ⟨rfl, rfl, rfl, by decide +kernel, rfl, by decide +kernel, by decide +kernel⟩
abbrev s__law_which : Stmt := top 54
abbrev N__law_which : List Str := ["_law_e", "_law_own"]
theorem sc__law_which : FnScope N__law_which ["_law_e"] (defScope s__law_which) := ⟨rfl, rfl, rfl, by decide +kernel, rfl, by decide +kernel, by decide +kernel⟩
abbrev s__law_ask : Stmt := top 55
abbrev N__law_ask : List Str := ["_law_what", "_law_one", "_law_other", "_law_third", "_law_e"]
theorem sc__law_ask : FnScope N__law_ask ["_law_what", "_law_one", "_law_other", "_law_third"] (defScope s__law_ask) := ⟨rfl, rfl, rfl, by decide +kernel, rfl, by decide +kernel, by decide +kernel⟩
abbrev s__law_tides : Stmt := top 56
abbrev N__law_tides : List Str := ["_law_odd", "_law_tide", "_law_bad", "_law_one", "_law_great", "_law_at"]
theorem sc__law_tides : FnScope N__law_tides ["_law_odd"] (defScope s__law_tides) := ⟨rfl, rfl, rfl, by decide +kernel, rfl, by decide +kernel, by decide +kernel⟩
abbrev s__law_tracks : Stmt := top 57
abbrev N__law_tracks : List Str := ["_law_odd", "_law_track", "_law_gate", "_law_wrong", "_law_none", "_law_one", "_law_far", "_law_at"]
theorem sc__law_tracks : FnScope N__law_tracks ["_law_odd"] (defScope s__law_tracks) := ⟨rfl, rfl, rfl, by decide +kernel, rfl, by decide +kernel, by decide +kernel⟩
abbrev s_law : Stmt := top 58
abbrev N_law : List Str := ["_law_script", "_law_town", "_law_odd", "_law_one"]
theorem sc_law : FnScope N_law ["_law_script"] (defScope s_law) := ⟨rfl, rfl, rfl, by decide +kernel, rfl, by decide +kernel, by decide +kernel⟩
def okcW (c : Nat) : Bool := c == 1 || c == 2 || c == 3 || c == 4 || c == 5 || c == 6
structure BB (K : PySem.W.Frag) (mg : Str → Option Value) (base : Heap) (cls : Nat → Addr) : Prop where
  n_ValueError : mg "ValueError" = none
  n_abs : mg "abs" = none
  n_all : mg "all" = none
  n_bool : mg "bool" = none
  n_enumerate : mg "enumerate" = none
  n_int : mg "int" = none
  n_isinstance : mg "isinstance" = none
  n_len : mg "len" = none
  n_range : mg "range" = none
  n_sorted : mg "sorted" = none
  n_tuple : mg "tuple" = none
  n_zip : mg "zip" = none
  e_RaceError : ExcP K mg "RaceError" (cls 0)
  e_NoShare : ExcP K mg "NoShare" (cls 1)
  e_NoTide : ExcP K mg "NoTide" (cls 2)
  e_NoNumber : ExcP K mg "NoNumber" (cls 3)
  e_NoTrack : ExcP K mg "NoTrack" (cls 4)
  e_NoGate : ExcP K mg "NoGate" (cls 5)
  e_NoCourse : ExcP K mg "NoCourse" (cls 6)
  e_NoRule : ExcP K mg "NoRule" (cls 7)
  e_NoEntries : ExcP K mg "NoEntries" (cls 8)
  e_NoRace : ExcP K mg "NoRace" (cls 9)
  e_NoSeries : ExcP K mg "NoSeries" (cls 10)
  e_NoDrops : ExcP K mg "NoDrops" (cls 11)
  e_NoBoat : ExcP K mg "NoBoat" (cls 12)
  e_NoHull : ExcP K mg "NoHull" (cls 13)
  e_NoWind : ExcP K mg "NoWind" (cls 14)
  e_NoProtest : ExcP K mg "NoProtest" (cls 15)
  e_NoFacts : ExcP K mg "NoFacts" (cls 16)
  e_NoOutcome : ExcP K mg "NoOutcome" (cls 17)
  e_Taken : ExcP K mg "Taken" (cls 18)
  e_NoThing : ExcP K mg "NoThing" (cls 19)
  e_NoDeed : ExcP K mg "NoDeed" (cls 20)
  e_NoText : ExcP K mg "NoText" (cls 21)
  c_LAST : ∃ t, mg "LAST" = some (.int 10000 t)
  c_FAR : ∃ t, mg "FAR" = some (.int 1000 t)
  c_LATE : ∃ t, mg "LATE" = some (.int 100000 t)
  tb : TabB base mg (cls 2000) (cls 1000)
  tbm : (cls 1000, lamQ 1) ∈ tabs cls
  tbu : ∀ r ∈ tabs cls, r.1 = cls 1000 → r.2 = lamQ 1
  d_is_whole : Std K mg "is_whole" s_is_whole ["thing", "least", "most"]
  d_common : Std K mg "common" s_common ["one", "other"]
  d_share : Std K mg "share" s_share ["top", "below"]
  d_is_share : Std K mg "is_share" s_is_share ["thing"]
  d_plus : Std K mg "plus" s_plus ["one", "other"]
  d_minus : Std K mg "minus" s_minus ["one", "other"]
  d_times : Std K mg "times" s_times ["one", "other"]
  d_less : Std K mg "less" s_less ["one", "other"]
  d_is_tide : Std K mg "is_tide" s_is_tide ["thing"]
  d_water : Std K mg "water" s_water ["tide", "at"]
  d_height_at : Std K mg "height_at" s_height_at ["tide", "at"]
  d_moments : StdL K mg "moments" s_moments ["tide", "low", "start", "end"] (cls 2000)
  d_deep : StdK K mg "deep" s_deep ["tide", "low", "start", "end"] 2 ["start", "end"]
  d_is_point : Std K mg "is_point" s_is_point ["thing"]
  d_is_track : Std K mg "is_track" s_is_track ["thing"]
  d_is_gate : Std K mg "is_gate" s_is_gate ["thing"]
  d_is_course : Std K mg "is_course" s_is_course ["thing"]
  d_side : Std K mg "side" s_side ["gate", "x", "y"]
  d_is_on : Std K mg "is_on" s_is_on ["gate", "x", "y", "below"]
  d_all_crossings : Std K mg "all_crossings" s_all_crossings ["track", "gate"]
  d_crossings : Std K mg "crossings" s_crossings ["track", "gate"]
  d_start_of : Std K mg "start_of" s_start_of ["some", "gun"]
  d_sailed : Std K mg "sailed" s_sailed ["track", "course", "gun"]
  d__law_draw : Std K mg "_law_draw" s__law_draw ["_law_script", "_law_town", "_law_many"]
  d__law_pick : Std K mg "_law_pick" s__law_pick ["_law_script", "_law_town", "_law_some"]
  d__law_which : Std K mg "_law_which" s__law_which ["_law_e"]
  d__law_ask : Std K mg "_law_ask" s__law_ask ["_law_what", "_law_one", "_law_other", "_law_third"]
  d__law_tides : Std K mg "_law_tides" s__law_tides ["_law_odd"]
  d__law_tracks : Std K mg "_law_tracks" s__law_tracks ["_law_odd"]
  w_cc : ∀ c, okcW c = true → ExcC K (cls c)
  w_kv : ∀ c, okcW c = true → PySem.W.kitOne K (.ref (cls c)) (.type "ValueError") = some true
  w_ex : ∀ c, okcW c = true → PySem.W.exmOne K (.ref (cls c)) (.ref (cls 0)) = some true
  w_k1 : ∀ c, okcW c = true → PySem.W.kitOne K (.ref (cls c)) (.ref (cls 1)) = some (decide (c = 1))
  w_k2 : ∀ c, okcW c = true → PySem.W.kitOne K (.ref (cls c)) (.ref (cls 2)) = some (decide (c = 2))
  w_k3 : ∀ c, okcW c = true → PySem.W.kitOne K (.ref (cls c)) (.ref (cls 3)) = some (decide (c = 3))
  w_k4 : ∀ c, okcW c = true → PySem.W.kitOne K (.ref (cls c)) (.ref (cls 4)) = some (decide (c = 4))
  w_k5 : ∀ c, okcW c = true → PySem.W.kitOne K (.ref (cls c)) (.ref (cls 5)) = some (decide (c = 5))
  w_k6 : ∀ c, okcW c = true → PySem.W.kitOne K (.ref (cls c)) (.ref (cls 6)) = some (decide (c = 6))
  w_k7 : ∀ c, okcW c = true → PySem.W.kitOne K (.ref (cls c)) (.ref (cls 7)) = some (decide (c = 7))
  w_k8 : ∀ c, okcW c = true → PySem.W.kitOne K (.ref (cls c)) (.ref (cls 8)) = some (decide (c = 8))
  w_k9 : ∀ c, okcW c = true → PySem.W.kitOne K (.ref (cls c)) (.ref (cls 9)) = some (decide (c = 9))
  w_k10 : ∀ c, okcW c = true → PySem.W.kitOne K (.ref (cls c)) (.ref (cls 10)) = some (decide (c = 10))
  w_k11 : ∀ c, okcW c = true → PySem.W.kitOne K (.ref (cls c)) (.ref (cls 11)) = some (decide (c = 11))
  w_k12 : ∀ c, okcW c = true → PySem.W.kitOne K (.ref (cls c)) (.ref (cls 12)) = some (decide (c = 12))
  w_k13 : ∀ c, okcW c = true → PySem.W.kitOne K (.ref (cls c)) (.ref (cls 13)) = some (decide (c = 13))
  w_k14 : ∀ c, okcW c = true → PySem.W.kitOne K (.ref (cls c)) (.ref (cls 14)) = some (decide (c = 14))
  w_k15 : ∀ c, okcW c = true → PySem.W.kitOne K (.ref (cls c)) (.ref (cls 15)) = some (decide (c = 15))
  w_k16 : ∀ c, okcW c = true → PySem.W.kitOne K (.ref (cls c)) (.ref (cls 16)) = some (decide (c = 16))
  w_k17 : ∀ c, okcW c = true → PySem.W.kitOne K (.ref (cls c)) (.ref (cls 17)) = some (decide (c = 17))
  w_k18 : ∀ c, okcW c = true → PySem.W.kitOne K (.ref (cls c)) (.ref (cls 18)) = some (decide (c = 18))
  w_k19 : ∀ c, okcW c = true → PySem.W.kitOne K (.ref (cls c)) (.ref (cls 19)) = some (decide (c = 19))
  w_k20 : ∀ c, okcW c = true → PySem.W.kitOne K (.ref (cls c)) (.ref (cls 20)) = some (decide (c = 20))
  w_k21 : ∀ c, okcW c = true → PySem.W.kitOne K (.ref (cls c)) (.ref (cls 21)) = some (decide (c = 21))
section
variable {P : Program} {w : World} {K : PySem.W.Frag} {mg : Str → Option Value} {base : Heap} {cls : Nat → Addr}
theorem dv_c_LAST {T : Type} {X : Cx} {C : Ct T} {W : WX} {pos : Pos} (B : BB X.K X.mg X.base cls) (hg : Gl X "LAST" := by rfl) : DV X C W (.Name "LAST" pos) (tC (.int 10000)) (mRet (PyData.int 10000)) := let ⟨t, h⟩ := B.c_LAST; dv_glob h ⟨t, rfl⟩ (fun _ => .int _) hg
theorem dv_c_FAR {T : Type} {X : Cx} {C : Ct T} {W : WX} {pos : Pos} (B : BB X.K X.mg X.base cls) (hg : Gl X "FAR" := by rfl) : DV X C W (.Name "FAR" pos) (tC (.int 1000)) (mRet (PyData.int 1000)) := let ⟨t, h⟩ := B.c_FAR; dv_glob h ⟨t, rfl⟩ (fun _ => .int _) hg
theorem dv_c_LATE {T : Type} {X : Cx} {C : Ct T} {W : WX} {pos : Pos} (B : BB X.K X.mg X.base cls) (hg : Gl X "LATE" := by rfl) : DV X C W (.Name "LATE" pos) (tC (.int 100000)) (mRet (PyData.int 100000)) := let ⟨t, h⟩ := B.c_LATE; dv_glob h ⟨t, rfl⟩ (fun _ => .int _) hg
def m_is_whole : M Unit Out :=
  (mReturn (mAndV (mIsi Ty.int (mVar 0)) (mAndV (mOfB (mNot (mB (mIsi Ty.bool (mVar 0))))) (mChain opLe opLe (mVar 1) (mVar 0) (mVar 2)))))
def g_is_whole : List D → Rp := fnP 3 3 m_is_whole
theorem ok_is_whole (B : BB K mg base cls) : DefP P w K mg base cls "is_whole" 1 ["thing", "least", "most"] g_is_whole :=
  okD (k := 0) (m := m_is_whole) B.d_is_whole sc_is_whole rfl (fun f cdv A outer s H E hr => by
    have q := Cur.pure (X := cxOf (L2.CX P w) P w K mg base N_is_whole "is_whole" (defScope s_is_whole) f cdv A outer s H E) (W := WofE E) (k := 0) (cls := cls) (takes_of rfl rfl rfl rfl) hr rfl rfl sc_is_whole.nd
    exact DSs.two (
    (dss_one (ds_ret (dv_and (dv_isi q Ty.int B.n_isinstance B.n_int PyProof.Rows.boot_int (dv_var 0)) (dv_and (dv_not (dv_isi q Ty.bool B.n_isinstance B.n_bool PyProof.Rows.boot_bool (dv_var 0))) (dv_one (dv_chain c_le.i c_le.i (dv_var 1) (dv_var 0) (dv_var 2)))))))))
def μ_common : S Unit → Nat := fun s => natOf s 1
def bd_common_0 : M Unit Out :=
  (mSets (mSCons (mFz (mVar 1)) (mSCons (mFz (mOp opMod (mVar 0) (mVar 1))) mSNil)) [0, 1])
def m_common : M Unit Out :=
  (mSeq (mSets (mSCons (mFz (mUn opAbs (mVar 0))) (mSCons (mFz (mUn opAbs (mVar 1))) mSNil)) [0, 1])
  (mSeq (mWhile μ_common (mTruth (mVar 1)) bd_common_0)
  (mReturn (mVar 0))))
def g_common : List D → Rp := fnP 2 2 m_common
theorem ok_common (B : BB K mg base cls) : DefP P w K mg base cls "common" 1 ["one", "other"] g_common :=
  okD (k := 0) (m := m_common) B.d_common sc_common rfl (fun f cdv A outer s H E hr => by
    have pw : PassesOwn (model P w) (A.deeper (PyProof.Rows.envOfC "common" (defScope s_common) s.heap.objs.size f cdv)) (PyProof.Rows.envOfC "common" (defScope s_common) s.heap.objs.size f cdv) (cxOf (L2.CX P w) P w K mg base N_common "common" (defScope s_common) f cdv A outer s H E).xe := passes_of (X := cxOf (L2.CX P w) P w K mg base N_common "common" (defScope s_common) f cdv A outer s H E) rfl
    have q := Cur.pure (X := cxOf (L2.CX P w) P w K mg base N_common "common" (defScope s_common) f cdv A outer s H E) (W := WofE E) (k := 0) (cls := cls) (takes_of rfl rfl rfl rfl) hr rfl rfl sc_common.nd
    exact DSs.two (
    (dss_cons (ds_par 0 1 q (das_cons (de_fz (dv_abs B.n_abs (dv_var 0))) (das_cons (de_fz (dv_abs B.n_abs (dv_var 1))) das_nil)))
    (dss_cons (ds_while μ_common pw (dt_tru q (dv_var 1)) (dss_one (ds_par 0 1 q (das_cons (de_fz (dv_var 1)) (das_cons (de_fz (dv_mod (dv_var 0) (dv_var 1))) das_nil)))))
    (dss_one (ds_ret (dv_var 0)))))))
def m_share : M Unit Out :=
  (mSeq (mIf ((mB (mOp opLt (mVar 1) (mRet (.int 0))))) (mSets (mSCons (mFz (mOp opSub (mRet (.int 0)) (mVar 0))) (mSCons (mFz (mOp opSub (mRet (.int 0)) (mVar 1))) mSNil)) [0, 1]) (mRet .nx))
  (mSeq (mSet 2 (mFz (mCall g_common (mCons (mVar 0) (mCons (mVar 1) (mRet []))))))
  (mReturn (mTup (mCons (mOp opDiv (mVar 0) (mVar 2)) (mCons (mOp opDiv (mVar 1) (mVar 2)) (mRet [])))))))
def g_share : List D → Rp := fnP 2 3 m_share
theorem ok_share (B : BB K mg base cls) : DefP P w K mg base cls "share" 2 ["top", "below"] g_share :=
  okD (k := 1) (m := m_share) B.d_share sc_share rfl (fun f cdv A outer s H E hr => by
    have q := Cur.pure (X := cxOf (L2.CX P w) P w K mg base N_share "share" (defScope s_share) f cdv A outer s H E) (W := WofE E) (k := 1) (cls := cls) (takes_of rfl rfl rfl rfl) hr rfl rfl sc_share.nd
    exact DSs.two (
    (dss_cons (ds_if (dt_cmp c_lt.i (dv_var 1) dv_int) (dss_one (ds_par 0 1 q (das_cons (de_fz (dv_sub dv_int (dv_var 0))) (das_cons (de_fz (dv_sub dv_int (dv_var 1))) das_nil)))) dss_nil)
    (dss_cons (ds_set 2 q (de_fz (dv_call q (ok_common B) (by decide) (da_cons (dv_var 0) (da_cons (dv_var 1) da_nil)))))
    (dss_one (ds_ret (dv_tup (da_cons (dv_div (dv_var 0) (dv_var 2)) (da_cons (dv_div (dv_var 1) (dv_var 2)) da_nil)))))))))
def m_is_share : M Unit Out :=
  (mSeq (mIf ((mOr (mNot (mTruth (mIsi Ty.tuple (mVar 0)))) ((mB (mOp opNe (mUn opLen (mVar 0)) (mRet (.int 2))))))) (mReturn (mRet (.bool false))) (mRet .nx))
  (mSeq (mIf (mNot (mTruth (mUn opAll (mFrz (mLc [1] (mIter (mVar 0)) (pName 1) (mRet true) (mAndV (mIsi Ty.int (mVar 1)) (mOfB (mNot (mB (mIsi Ty.bool (mVar 1))))))))))) (mReturn (mRet (.bool false))) (mRet .nx))
  (mReturn (mAndV (mOp opGt (mOp opIx (mVar 0) (mRet (.int 1))) (mRet (.int 0))) (mOp opEq (mCall g_common (mCons (mOp opIx (mVar 0) (mRet (.int 0))) (mCons (mOp opIx (mVar 0) (mRet (.int 1))) (mRet [])))) (mRet (.int 1)))))))
def g_is_share : List D → Rp := fnP 1 2 m_is_share
theorem ok_is_share (B : BB K mg base cls) : DefP P w K mg base cls "is_share" 2 ["thing"] g_is_share :=
  okD (k := 1) (m := m_is_share) B.d_is_share sc_is_share rfl (fun f cdv A outer s H E hr => by
    have q := Cur.pure (X := cxOf (L2.CX P w) P w K mg base N_is_share "is_share" (defScope s_is_share) f cdv A outer s H E) (W := WofE E) (k := 1) (cls := cls) (takes_of rfl rfl rfl rfl) hr rfl rfl sc_is_share.nd
    exact DSs.two (
    (dss_cons (ds_if (dt_w (dw_or (dt_not (dt_tru q (dv_isi q Ty.tuple B.n_isinstance B.n_tuple PyProof.Rows.boot_tuple (dv_var 0)))) (dw_or1 (dt_cmp (c_ne q).i (dv_len q B.n_len (dv_var 0)) dv_int)))) (dss_one (ds_ret dv_bl)) dss_nil)
    (dss_cons (ds_if (dt_not (dt_tru q (dv_all q B.n_all (dv_frz (de_lc q [1] rfl (by decide) (di_seq q (dv_var 0)) (blkOk_by (own := [("one", 1)]) (N := N_is_share) (sc := defScope s_is_share) (by decide +kernel)) (fun _ _ _ _ _ q1 => (dg_name 1 q1)) (fun _ _ _ _ _ q1 => dts_nil) (fun _ _ _ _ _ q1 => (dv_and (dv_isi q1 Ty.int B.n_isinstance B.n_int PyProof.Rows.boot_int (dv_var 1)) (dv_one (dv_not (dv_isi q1 Ty.bool B.n_isinstance B.n_bool PyProof.Rows.boot_bool (dv_var 1))))))))))) (dss_one (ds_ret dv_bl)) dss_nil)
    (dss_one (ds_ret (dv_and (dv_cmp c_gt.i (dv_ix q (dv_var 0) dv_int) dv_int) (dv_one (dv_cmp (c_eq q).i (dv_call q (ok_common B) (by decide) (da_cons (dv_ix q (dv_var 0) dv_int) (da_cons (dv_ix q (dv_var 0) dv_int) da_nil))) dv_int)))))))))
def m_plus : M Unit Out :=
  (mReturn (mCall g_share (mCons (mOp opAdd (mOp opMul (mOp opIx (mVar 0) (mRet (.int 0))) (mOp opIx (mVar 1) (mRet (.int 1)))) (mOp opMul (mOp opIx (mVar 1) (mRet (.int 0))) (mOp opIx (mVar 0) (mRet (.int 1))))) (mCons (mOp opMul (mOp opIx (mVar 0) (mRet (.int 1))) (mOp opIx (mVar 1) (mRet (.int 1)))) (mRet [])))))
def g_plus : List D → Rp := fnP 2 2 m_plus
theorem ok_plus (B : BB K mg base cls) : DefP P w K mg base cls "plus" 3 ["one", "other"] g_plus :=
  okD (k := 2) (m := m_plus) B.d_plus sc_plus rfl (fun f cdv A outer s H E hr => by
    have q := Cur.pure (X := cxOf (L2.CX P w) P w K mg base N_plus "plus" (defScope s_plus) f cdv A outer s H E) (W := WofE E) (k := 2) (cls := cls) (takes_of rfl rfl rfl rfl) hr rfl rfl sc_plus.nd
    exact DSs.two (
    (dss_one (ds_ret (dv_call q (ok_share B) (by decide) (da_cons (dv_add q (dv_mul (dv_ix q (dv_var 0) dv_int) (dv_ix q (dv_var 1) dv_int)) (dv_mul (dv_ix q (dv_var 1) dv_int) (dv_ix q (dv_var 0) dv_int))) (da_cons (dv_mul (dv_ix q (dv_var 0) dv_int) (dv_ix q (dv_var 1) dv_int)) da_nil)))))))
def m_minus : M Unit Out :=
  (mReturn (mCall g_share (mCons (mOp opSub (mOp opMul (mOp opIx (mVar 0) (mRet (.int 0))) (mOp opIx (mVar 1) (mRet (.int 1)))) (mOp opMul (mOp opIx (mVar 1) (mRet (.int 0))) (mOp opIx (mVar 0) (mRet (.int 1))))) (mCons (mOp opMul (mOp opIx (mVar 0) (mRet (.int 1))) (mOp opIx (mVar 1) (mRet (.int 1)))) (mRet [])))))
def g_minus : List D → Rp := fnP 2 2 m_minus
theorem ok_minus (B : BB K mg base cls) : DefP P w K mg base cls "minus" 3 ["one", "other"] g_minus :=
  okD (k := 2) (m := m_minus) B.d_minus sc_minus rfl (fun f cdv A outer s H E hr => by
    have q := Cur.pure (X := cxOf (L2.CX P w) P w K mg base N_minus "minus" (defScope s_minus) f cdv A outer s H E) (W := WofE E) (k := 2) (cls := cls) (takes_of rfl rfl rfl rfl) hr rfl rfl sc_minus.nd
    exact DSs.two (
    (dss_one (ds_ret (dv_call q (ok_share B) (by decide) (da_cons (dv_sub (dv_mul (dv_ix q (dv_var 0) dv_int) (dv_ix q (dv_var 1) dv_int)) (dv_mul (dv_ix q (dv_var 1) dv_int) (dv_ix q (dv_var 0) dv_int))) (da_cons (dv_mul (dv_ix q (dv_var 0) dv_int) (dv_ix q (dv_var 1) dv_int)) da_nil)))))))
def m_times : M Unit Out :=
  (mReturn (mCall g_share (mCons (mOp opMul (mOp opIx (mVar 0) (mRet (.int 0))) (mOp opIx (mVar 1) (mRet (.int 0)))) (mCons (mOp opMul (mOp opIx (mVar 0) (mRet (.int 1))) (mOp opIx (mVar 1) (mRet (.int 1)))) (mRet [])))))
def g_times : List D → Rp := fnP 2 2 m_times
theorem ok_times (B : BB K mg base cls) : DefP P w K mg base cls "times" 3 ["one", "other"] g_times :=
  okD (k := 2) (m := m_times) B.d_times sc_times rfl (fun f cdv A outer s H E hr => by
    have q := Cur.pure (X := cxOf (L2.CX P w) P w K mg base N_times "times" (defScope s_times) f cdv A outer s H E) (W := WofE E) (k := 2) (cls := cls) (takes_of rfl rfl rfl rfl) hr rfl rfl sc_times.nd
    exact DSs.two (
    (dss_one (ds_ret (dv_call q (ok_share B) (by decide) (da_cons (dv_mul (dv_ix q (dv_var 0) dv_int) (dv_ix q (dv_var 1) dv_int)) (da_cons (dv_mul (dv_ix q (dv_var 0) dv_int) (dv_ix q (dv_var 1) dv_int)) da_nil)))))))
def m_less : M Unit Out :=
  (mReturn (mOp opLt (mOp opMul (mOp opIx (mVar 0) (mRet (.int 0))) (mOp opIx (mVar 1) (mRet (.int 1)))) (mOp opMul (mOp opIx (mVar 1) (mRet (.int 0))) (mOp opIx (mVar 0) (mRet (.int 1))))))
def g_less : List D → Rp := fnP 2 2 m_less
theorem ok_less (B : BB K mg base cls) : DefP P w K mg base cls "less" 1 ["one", "other"] g_less :=
  okD (k := 0) (m := m_less) B.d_less sc_less rfl (fun f cdv A outer s H E hr => by
    have q := Cur.pure (X := cxOf (L2.CX P w) P w K mg base N_less "less" (defScope s_less) f cdv A outer s H E) (W := WofE E) (k := 0) (cls := cls) (takes_of rfl rfl rfl rfl) hr rfl rfl sc_less.nd
    exact DSs.two (
    (dss_one (ds_ret (dv_cmp c_lt.i (dv_mul (dv_ix q (dv_var 0) dv_int) (dv_ix q (dv_var 1) dv_int)) (dv_mul (dv_ix q (dv_var 1) dv_int) (dv_ix q (dv_var 0) dv_int)))))))
def bd_is_tide_0 : M Unit Out :=
  (mSeq (mIf ((mOr (mNot (mTruth (mIsi Ty.tuple (mVar 1)))) ((mB (mOp opNe (mUn opLen (mVar 1)) (mRet (.int 2))))))) (mReturn (mRet (.bool false))) (mRet .nx))
  (mIf ((mOr (mNot (mTruth (mCall g_is_whole (mCons (mOp opIx (mVar 1) (mRet (.int 0))) (mCons (mRet (.int 0)) (mCons (mRet (PyData.int 10000)) (mRet []))))))) (mNot (mTruth (mCall g_is_whole (mCons (mOp opIx (mVar 1) (mRet (.int 1))) (mCons (mOp opSub (mRet (.int 0)) (mRet (.int 500))) (mCons (mRet (.int 3000)) (mRet []))))))))) (mReturn (mRet (.bool false))) (mRet .nx)))
def m_is_tide : M Unit Out :=
  (mSeq (mIf ((mOr (mNot (mTruth (mIsi Ty.tuple (mVar 0)))) (mNot ((mB (mChain opLe opLe (mRet (.int 2)) (mUn opLen (mVar 0)) (mRet (.int 20)))))))) (mReturn (mRet (.bool false))) (mRet .nx))
  (mSeq (mFor (mIter (mVar 0)) (pName 1) bd_is_tide_0)
  (mReturn (mUn opAll (mFrz (mLc [1, 2] (mZip (mVar 0) (mSl (mVar 0) (mSome (mRet (.int 1))) (mRet none))) (pTup 2 (pCons (pName 1) (pCons (pName 2) pNil))) (mRet true) (mOp opLt (mOp opIx (mVar 1) (mRet (.int 0))) (mOp opIx (mVar 2) (mRet (.int 0))))))))))
def g_is_tide : List D → Rp := fnP 1 3 m_is_tide
theorem ok_is_tide (B : BB K mg base cls) : DefP P w K mg base cls "is_tide" 2 ["thing"] g_is_tide :=
  okD (k := 1) (m := m_is_tide) B.d_is_tide sc_is_tide rfl (fun f cdv A outer s H E hr => by
    have pw : PassesOwn (model P w) (A.deeper (PyProof.Rows.envOfC "is_tide" (defScope s_is_tide) s.heap.objs.size f cdv)) (PyProof.Rows.envOfC "is_tide" (defScope s_is_tide) s.heap.objs.size f cdv) (cxOf (L2.CX P w) P w K mg base N_is_tide "is_tide" (defScope s_is_tide) f cdv A outer s H E).xe := passes_of (X := cxOf (L2.CX P w) P w K mg base N_is_tide "is_tide" (defScope s_is_tide) f cdv A outer s H E) rfl
    have q := Cur.pure (X := cxOf (L2.CX P w) P w K mg base N_is_tide "is_tide" (defScope s_is_tide) f cdv A outer s H E) (W := WofE E) (k := 1) (cls := cls) (takes_of rfl rfl rfl rfl) hr rfl rfl sc_is_tide.nd
    exact DSs.two (
    (dss_cons (ds_if (dt_w (dw_or (dt_not (dt_tru q (dv_isi q Ty.tuple B.n_isinstance B.n_tuple PyProof.Rows.boot_tuple (dv_var 0)))) (dw_or1 (dt_not (dt_chain c_le.i c_le.i dv_int (dv_len q B.n_len (dv_var 0)) dv_int))))) (dss_one (ds_ret dv_bl)) dss_nil)
    (dss_cons (ds_for q pw (di_seq q (dv_var 0)) (dg_name 1 q) (dss_cons (ds_if (dt_w (dw_or (dt_not (dt_tru q (dv_isi q Ty.tuple B.n_isinstance B.n_tuple PyProof.Rows.boot_tuple (dv_var 1)))) (dw_or1 (dt_cmp (c_ne q).i (dv_len q B.n_len (dv_var 1)) dv_int)))) (dss_one (ds_ret dv_bl)) dss_nil)
    (dss_one (ds_if (dt_w (dw_or (dt_not (dt_tru q (dv_call q (ok_is_whole B) (by decide) (da_cons (dv_ix q (dv_var 1) dv_int) (da_cons dv_int (da_cons (dv_c_LAST B) da_nil)))))) (dw_or1 (dt_not (dt_tru q (dv_call q (ok_is_whole B) (by decide) (da_cons (dv_ix q (dv_var 1) dv_int) (da_cons (dv_sub dv_int dv_int) (da_cons dv_int da_nil))))))))) (dss_one (ds_ret dv_bl)) dss_nil))))
    (dss_one (ds_ret (dv_all q B.n_all (dv_frz (de_lc q [1, 2] rfl (by decide) (di_zip q B.n_zip (dv_var 0) (dv_sl q (dv_var 0) (do_some dv_int) do_none)) (blkOk_by (own := [("one", 1), ("other", 2)]) (N := N_is_tide) (sc := defScope s_is_tide) (by decide +kernel)) (fun _ _ _ _ _ q1 => (dg_tup 2 q1 (dgs_cons (dg_name 1 q1) (dgs_cons (dg_name 2 q1) dgs_nil)))) (fun _ _ _ _ _ q1 => dts_nil) (fun _ _ _ _ _ q1 => (dv_cmp c_lt.i (dv_ix q1 (dv_var 1) dv_int) (dv_ix q1 (dv_var 2) dv_int))))))))))))
def bd_water_0 : M Unit Out :=
  (mIf (mNot (mTruth (mCall g_less (mCons (mTup (mCons (mVar 4) (mCons (mRet (.int 1)) (mRet [])))) (mCons (mVar 1) (mRet [])))))) (mSeq (mSet 6 (mFz (mCall g_minus (mCons (mVar 1) (mCons (mTup (mCons (mVar 2) (mCons (mRet (.int 1)) (mRet [])))) (mRet []))))))
  (mReturn (mCall g_plus (mCons (mTup (mCons (mVar 3) (mCons (mRet (.int 1)) (mRet [])))) (mCons (mCall g_times (mCons (mVar 6) (mCons (mCall g_share (mCons (mOp opSub (mVar 5) (mVar 3)) (mCons (mOp opSub (mVar 4) (mVar 2)) (mRet [])))) (mRet [])))) (mRet [])))))) (mRet .nx))
def m_water : M Unit Out :=
  (mSeq (mIf (mNot (mTruth (mCall g_less (mCons (mTup (mCons (mOp opIx (mOp opIx (mVar 0) (mRet (.int 0))) (mRet (.int 0))) (mCons (mRet (.int 1)) (mRet [])))) (mCons (mVar 1) (mRet [])))))) (mReturn (mTup (mCons (mOp opIx (mOp opIx (mVar 0) (mRet (.int 0))) (mRet (.int 1))) (mCons (mRet (.int 1)) (mRet []))))) (mRet .nx))
  (mSeq (mFor (mZip (mVar 0) (mSl (mVar 0) (mSome (mRet (.int 1))) (mRet none))) (pTup 2 (pCons (pTup 2 (pCons (pName 2) (pCons (pName 3) pNil))) (pCons (pTup 2 (pCons (pName 4) (pCons (pName 5) pNil))) pNil))) bd_water_0)
  (mReturn (mTup (mCons (mOp opIx (mOp opIx (mVar 0) (mUn opNeg (mRet (.int 1)))) (mRet (.int 1))) (mCons (mRet (.int 1)) (mRet [])))))))
def g_water : List D → Rp := fnP 2 7 m_water
theorem ok_water (B : BB K mg base cls) : DefP P w K mg base cls "water" 4 ["tide", "at"] g_water :=
  okD (k := 3) (m := m_water) B.d_water sc_water rfl (fun f cdv A outer s H E hr => by
    have pw : PassesOwn (model P w) (A.deeper (PyProof.Rows.envOfC "water" (defScope s_water) s.heap.objs.size f cdv)) (PyProof.Rows.envOfC "water" (defScope s_water) s.heap.objs.size f cdv) (cxOf (L2.CX P w) P w K mg base N_water "water" (defScope s_water) f cdv A outer s H E).xe := passes_of (X := cxOf (L2.CX P w) P w K mg base N_water "water" (defScope s_water) f cdv A outer s H E) rfl
    have q := Cur.pure (X := cxOf (L2.CX P w) P w K mg base N_water "water" (defScope s_water) f cdv A outer s H E) (W := WofE E) (k := 3) (cls := cls) (takes_of rfl rfl rfl rfl) hr rfl rfl sc_water.nd
    exact DSs.two (
    (dss_cons (ds_if (dt_not (dt_tru q (dv_call q (ok_less B) (by decide) (da_cons (dv_tup (da_cons (dv_ix q (dv_ix q (dv_var 0) dv_int) dv_int) (da_cons dv_int da_nil))) (da_cons (dv_var 1) da_nil))))) (dss_one (ds_ret (dv_tup (da_cons (dv_ix q (dv_ix q (dv_var 0) dv_int) dv_int) (da_cons dv_int da_nil))))) dss_nil)
    (dss_cons (ds_for q pw (di_zip q B.n_zip (dv_var 0) (dv_sl q (dv_var 0) (do_some dv_int) do_none)) (dg_tup 2 q (dgs_cons (dg_tup 2 q (dgs_cons (dg_name 2 q) (dgs_cons (dg_name 3 q) dgs_nil))) (dgs_cons (dg_tup 2 q (dgs_cons (dg_name 4 q) (dgs_cons (dg_name 5 q) dgs_nil))) dgs_nil))) (dss_one (ds_if (dt_not (dt_tru q (dv_call q (ok_less B) (by decide) (da_cons (dv_tup (da_cons (dv_var 4) (da_cons dv_int da_nil))) (da_cons (dv_var 1) da_nil))))) (dss_cons (ds_set 6 q (de_fz (dv_call q (ok_minus B) (by decide) (da_cons (dv_var 1) (da_cons (dv_tup (da_cons (dv_var 2) (da_cons dv_int da_nil))) da_nil)))))
    (dss_one (ds_ret (dv_call q (ok_plus B) (by decide) (da_cons (dv_tup (da_cons (dv_var 3) (da_cons dv_int da_nil))) (da_cons (dv_call q (ok_times B) (by decide) (da_cons (dv_var 6) (da_cons (dv_call q (ok_share B) (by decide) (da_cons (dv_sub (dv_var 5) (dv_var 3)) (da_cons (dv_sub (dv_var 4) (dv_var 2)) da_nil))) da_nil))) da_nil)))))) dss_nil)))
    (dss_one (ds_ret (dv_tup (da_cons (dv_ix q (dv_ix q (dv_var 0) (dv_neg dv_int)) dv_int) (da_cons dv_int da_nil)))))))))
def m_height_at : M Unit Out :=
  (mSeq (mIf (mNot (mTruth (mCall g_is_tide (mCons (mVar 0) (mRet []))))) (mRaise 2) (mRet .nx))
  (mSeq (mIf (mNot (mTruth (mCall g_is_share (mCons (mVar 1) (mRet []))))) (mRaise 1) (mRet .nx))
  (mReturn (mCall g_water (mCons (mVar 0) (mCons (mVar 1) (mRet [])))))))
def g_height_at : List D → Rp := fnP 2 2 m_height_at
theorem ok_height_at (B : BB K mg base cls) : DefP P w K mg base cls "height_at" 5 ["tide", "at"] g_height_at :=
  okD (k := 4) (m := m_height_at) B.d_height_at sc_height_at rfl (fun f cdv A outer s H E hr => by
    have q := Cur.pure (X := cxOf (L2.CX P w) P w K mg base N_height_at "height_at" (defScope s_height_at) f cdv A outer s H E) (W := WofE E) (k := 4) (cls := cls) (takes_of rfl rfl rfl rfl) hr rfl rfl sc_height_at.nd
    exact DSs.two (
    (dss_cons (ds_if (dt_not (dt_tru q (dv_call q (ok_is_tide B) (by decide) (da_cons (dv_var 0) da_nil)))) (dss_one (ds_raise 2 q (B.e_NoTide))) dss_nil)
    (dss_cons (ds_if (dt_not (dt_tru q (dv_call q (ok_is_share B) (by decide) (da_cons (dv_var 1) da_nil)))) (dss_one (ds_raise 1 q (B.e_NoShare))) dss_nil)
    (dss_one (ds_ret (dv_call q (ok_water B) (by decide) (da_cons (dv_var 0) (da_cons (dv_var 1) da_nil)))))))))
def bd_moments_0 : M (Town × KTd) Out :=
  (mIf ((mB (mChain opLt opLt (mVar 2) (mOp opIx (mVar 5) (mRet (.int 0))) (mVar 3)))) (mKPut 4 (mTup (mCons (mOp opIx (mVar 5) (mRet (.int 0))) (mCons (mRet (.int 1)) (mRet [])))) (mRet (.bool true))) (mRet .nx))
def bd_moments_1 : M (Town × KTd) Out :=
  (mIf ((mB (mOp opNe (mVar 5) (mVar 8)))) (mSeq (mSet 9 (mFz (mCall g_plus (mCons (mTup (mCons (mVar 6) (mCons (mRet (.int 1)) (mRet [])))) (mCons (mCall g_share (mCons (mOp opMul (mOp opSub (mVar 1) (mVar 5)) (mOp opSub (mVar 7) (mVar 6))) (mCons (mOp opSub (mVar 8) (mVar 5)) (mRet [])))) (mRet []))))))
  (mIf ((mAnd (mTruth (mCall g_less (mCons (mTup (mCons (mVar 6) (mCons (mRet (.int 1)) (mRet [])))) (mCons (mVar 9) (mRet []))))) (mAnd (mTruth (mCall g_less (mCons (mVar 9) (mCons (mTup (mCons (mVar 7) (mCons (mRet (.int 1)) (mRet [])))) (mRet []))))) (mAnd (mTruth (mCall g_less (mCons (mTup (mCons (mVar 2) (mCons (mRet (.int 1)) (mRet [])))) (mCons (mVar 9) (mRet []))))) (mTruth (mCall g_less (mCons (mVar 9) (mCons (mTup (mCons (mVar 3) (mCons (mRet (.int 1)) (mRet [])))) (mRet []))))))))) (mKPut 4 (mVar 9) (mRet (.bool true))) (mRet .nx))) (mRet .nx))
def bd_moments_2 : M Town Out :=
  (mSet 10 (mFz (mOp opDiv (mOp opMul (mVar 10) (mOp opIx (mVar 9) (mRet (.int 1)))) (mCall g_common (mCons (mVar 10) (mCons (mOp opIx (mVar 9) (mRet (.int 1))) (mRet [])))))))
def m_moments : M Town Out :=
  (mOpenK 4 [((mTup (mCons (mVar 2) (mCons (mRet (.int 1)) (mRet [])))), (mRet (.bool true))), ((mTup (mCons (mVar 3) (mCons (mRet (.int 1)) (mRet [])))), (mRet (.bool true)))] (mSeq (mFor (mIter (mVar 0)) (pName 5) bd_moments_0) (mSeq (mFor (mZip (mVar 0) (mSl (mVar 0) (mSome (mRet (.int 1))) (mRet none))) (pTup 2 (pCons (pTup 2 (pCons (pName 6) (pCons (pName 5) pNil))) (pCons (pTup 2 (pCons (pName 7) (pCons (pName 8) pNil))) pNil))) bd_moments_1) (mSeq (mSet 10 (mFz (mRet (.int 1)))) (mKFor 4 (pName 9) bd_moments_2)))) (mRetSortKI (keyFP 10)))
def g_moments : List Slot → Town → Rt Town := fnT 4 11 m_moments
theorem ok_moments (B : BB K mg base cls) : DefX P w K mg base "moments" 4 ["tide", "low", "start", "end"] (spX (CTs K cls) g_moments) :=
  okDTL (k := 3) (m := m_moments) B.d_moments sc_moments rfl (fun f A outer s H E hr => by
    have pw : PassesOwn (model P w) (A.deeper (PyProof.Rows.envOfC "moments" (defScope s_moments) s.heap.objs.size f (.ref (cls 2000)))) (PyProof.Rows.envOfC "moments" (defScope s_moments) s.heap.objs.size f (.ref (cls 2000))) (cxOf (L2.CX P w) P w K mg base N_moments "moments" (defScope s_moments) f (.ref (cls 2000)) A outer s H E).xe := passes_of (X := cxOf (L2.CX P w) P w K mg base N_moments "moments" (defScope s_moments) f (.ref (cls 2000)) A outer s H E) rfl
    exact DSs.twoT (cts_any K cls) (fun C hC =>
    have q := Cur.town (X := cxOf (L2.CX P w) P w K mg base N_moments "moments" (defScope s_moments) f (.ref (cls 2000)) A outer s H E) (W := WofE E) (k := 3) hC (takes_of rfl rfl rfl rfl) hr rfl rfl sc_moments.nd
    (dss_openK4 4 q (dps_cons (dv_tup (da_cons (dv_var 2) (da_cons dv_int da_nil))) dv_bl (dps_cons (dv_tup (da_cons (dv_var 3) (da_cons dv_int da_nil))) dv_bl dps_nil)) (fun p qk => (ds_for qk pw (di_seq qk (dv_var 0)) (dg_name 5 qk) (dss_one (ds_if (dt_chain c_lt.i c_lt.i (dv_var 2) (dv_ix qk (dv_var 5) dv_int) (dv_var 3)) (dss_one (ds_putK q 4 (pv 4) (dv_tup (da_cons (dv_ix qk (dv_var 5) dv_int) (da_cons dv_int da_nil))) dv_bl)) dss_nil))))
    (fun p qk => (ds_for qk pw (di_zip qk B.n_zip (dv_var 0) (dv_sl qk (dv_var 0) (do_some dv_int) do_none)) (dg_tup 2 qk (dgs_cons (dg_tup 2 qk (dgs_cons (dg_name 6 qk) (dgs_cons (dg_name 5 qk) dgs_nil))) (dgs_cons (dg_tup 2 qk (dgs_cons (dg_name 7 qk) (dgs_cons (dg_name 8 qk) dgs_nil))) dgs_nil))) (dss_one (ds_if (dt_cmp (c_ne qk).i (dv_var 5) (dv_var 8)) (dss_cons (ds_set 9 qk (de_fz (dv_call qk (ok_plus B) (by decide) (da_cons (dv_tup (da_cons (dv_var 6) (da_cons dv_int da_nil))) (da_cons (dv_call qk (ok_share B) (by decide) (da_cons (dv_mul (dv_sub (dv_var 1) (dv_var 5)) (dv_sub (dv_var 7) (dv_var 6))) (da_cons (dv_sub (dv_var 8) (dv_var 5)) da_nil))) da_nil)))))
    (dss_one (ds_if (dt_w (dw_and (dt_tru qk (dv_call qk (ok_less B) (by decide) (da_cons (dv_tup (da_cons (dv_var 6) (da_cons dv_int da_nil))) (da_cons (dv_var 9) da_nil)))) (dw_and (dt_tru qk (dv_call qk (ok_less B) (by decide) (da_cons (dv_var 9) (da_cons (dv_tup (da_cons (dv_var 7) (da_cons dv_int da_nil))) da_nil)))) (dw_and (dt_tru qk (dv_call qk (ok_less B) (by decide) (da_cons (dv_tup (da_cons (dv_var 2) (da_cons dv_int da_nil))) (da_cons (dv_var 9) da_nil)))) (dw_and1 (dt_tru qk (dv_call qk (ok_less B) (by decide) (da_cons (dv_var 9) (da_cons (dv_tup (da_cons (dv_var 3) (da_cons dv_int da_nil))) da_nil))))))))) (dss_one (ds_putK q 4 (pv 4) (dv_var 9) dv_bl)) dss_nil))) dss_nil))))
    (fun p qk => (ds_set 10 qk (de_fz dv_int)))
    (fun p qk => (ds_forK 4 q (noTup_CTs hC) pw (pv 4) (dg_name 9 (q.cp p)) (dss_one (ds_set 10 (q.cp p) (de_fz (dv_div (dv_mul (dv_var 10) (dv_ix (q.cp p) (dv_var 9) dv_int)) (dv_call (q.cp p) (ok_common B) (by decide) (da_cons (dv_var 10) (da_cons (dv_ix (q.cp p) (dv_var 9) dv_int) da_nil))))))))) (lastK_I (lastK_sortP (q := lamQ 1) (c := cls 2000) (P := cls 1000) 4 10 q hC (by exact ⟨rfl, rfl, rfl, fun _ _ _ _ _ _ => rfl, rfl, by decide⟩) B.tb B.tbm B.tbu B.n_sorted (pv 4))))))
def bd_deep_0 : M Town Out :=
  (mSeq (mSet 9 (mFz (mOfB (mNot (mB (mCall g_less (mCons (mCall g_water (mCons (mVar 0) (mCons (mVar 8) (mRet [])))) (mCons (mTup (mCons (mVar 1) (mCons (mRet (.int 1)) (mRet [])))) (mRet [])))))))))
  (mSeq (mIf ((mAnd (mTruth (mVar 9)) ((mB (mOp opIs (mVar 6) (mRet .none)))))) (mSet 6 (mFz (mVar 8))) (mRet .nx))
  (mSeq (mSet 10 (mFz (mOp opEq (mOp opAdd (mVar 7) (mRet (.int 1))) (mUn opLen (mVar 4)))))
  (mSeq (mIf (mNot (mTruth (mVar 10))) (mSeq (mSet 11 (mFz (mCall g_times (mCons (mCall g_plus (mCons (mVar 8) (mCons (mOp opIx (mVar 4) (mOp opAdd (mVar 7) (mRet (.int 1)))) (mRet [])))) (mCons (mTup (mCons (mRet (.int 1)) (mCons (mRet (.int 2)) (mRet [])))) (mRet []))))))
  (mSet 10 (mFz (mCall g_less (mCons (mCall g_water (mCons (mVar 0) (mCons (mVar 11) (mRet [])))) (mCons (mTup (mCons (mVar 1) (mCons (mRet (.int 1)) (mRet [])))) (mRet []))))))) (mRet .nx))
  (mIf ((mAnd ((mB (mOp opIsNot (mVar 6) (mRet .none)))) (mTruth (mVar 10)))) (mSeq (mExpr (mAppend 5 (mTup (mCons (mVar 6) (mCons (mVar 8) (mRet []))))))
  (mSet 6 (mFz (mRet .none)))) (mRet .nx))))))
def m_deep : M Town Out :=
  (mSeq (mIf (mNot (mTruth (mCall g_is_tide (mCons (mVar 0) (mRet []))))) (mRaise 2) (mRet .nx))
  (mSeq (mIf ((mOr (mNot (mTruth (mIsi Ty.int (mVar 1)))) (mOr (mTruth (mIsi Ty.bool (mVar 1))) (mOr (mNot (mTruth (mCall g_is_whole (mCons (mVar 3) (mCons (mRet (.int 0)) (mCons (mRet (PyData.int 10000)) (mRet []))))))) (mNot (mTruth (mCall g_is_whole (mCons (mVar 2) (mCons (mRet (.int 0)) (mCons (mVar 3) (mRet []))))))))))) (mRaise 3) (mRet .nx))
  (mSeq (mSets (mSCons (mFz (mCallT g_moments (mSCons (mFz (mVar 0)) (mSCons (mFz (mVar 1)) (mSCons (mFz (mVar 2)) (mSCons (mFz (mVar 3)) mSNil)))))) (mSCons (mLst (mRet [])) (mSCons (mFz (mRet .none)) mSNil))) [4, 5, 6])
  (mSeq (mFor (mEnumA (mVar 4)) (pTup 2 (pCons (pName 7) (pCons (pName 8) pNil))) bd_deep_0)
  (mReturn (mVar 5))))))
def g_deep : List Slot → Town → Rt Town := fnT 4 12 m_deep
theorem ok_deep (B : BB K mg base cls) : DefXK P w K mg base "deep" 5 ["tide", "low", "start", "end"] 2 ["start", "end"] (spX (CTs K cls) g_deep) :=
  okDTK (k := 4) (m := m_deep) B.d_deep sc_deep rfl (fun f cdv A outer s H E hr => by
    have pw : PassesOwn (model P w) (A.deeper (PyProof.Rows.envOfC "deep" (defScope s_deep) s.heap.objs.size f cdv)) (PyProof.Rows.envOfC "deep" (defScope s_deep) s.heap.objs.size f cdv) (cxOf (L2.CX P w) P w K mg base N_deep "deep" (defScope s_deep) f cdv A outer s H E).xe := passes_of (X := cxOf (L2.CX P w) P w K mg base N_deep "deep" (defScope s_deep) f cdv A outer s H E) rfl
    exact DSs.twoT (cts_any K cls) (fun C hC =>
    have q := Cur.town (X := cxOf (L2.CX P w) P w K mg base N_deep "deep" (defScope s_deep) f cdv A outer s H E) (W := WofE E) (k := 4) hC (takes_of rfl rfl rfl rfl) hr rfl rfl sc_deep.nd
    (dss_cons (ds_if (dt_not (dt_tru q (dv_call q (ok_is_tide B) (by decide) (da_cons (dv_var 0) da_nil)))) (dss_one (ds_raise 2 q (B.e_NoTide))) dss_nil)
    (dss_cons (ds_if (dt_w (dw_or (dt_not (dt_tru q (dv_isi q Ty.int B.n_isinstance B.n_int PyProof.Rows.boot_int (dv_var 1)))) (dw_or (dt_tru q (dv_isi q Ty.bool B.n_isinstance B.n_bool PyProof.Rows.boot_bool (dv_var 1))) (dw_or (dt_not (dt_tru q (dv_call q (ok_is_whole B) (by decide) (da_cons (dv_var 3) (da_cons dv_int (da_cons (dv_c_LAST B) da_nil)))))) (dw_or1 (dt_not (dt_tru q (dv_call q (ok_is_whole B) (by decide) (da_cons (dv_var 2) (da_cons dv_int (da_cons (dv_var 3) da_nil))))))))))) (dss_one (ds_raise 3 q (B.e_NoNumber))) dss_nil)
    (dss_cons (ds_par3 4 5 6 q (das_cons (de_fz (dv_callT q hC (ok_moments B) (by decide) (das_cons (de_fz (dv_var 0)) (das_cons (de_fz (dv_var 1)) (das_cons (de_fz (dv_var 2)) (das_cons (de_fz (dv_var 3)) das_nil)))))) (das_cons (de_lst da_nil) (das_cons (de_fz dv_non) das_nil))))
    (dss_cons (ds_for q pw (di_enumA q B.n_enumerate (dv_var 4)) (dg_tup 2 q (dgs_cons (dg_name 7 q) (dgs_cons (dg_name 8 q) dgs_nil))) (dss_cons (ds_set 9 q (de_fz (dv_not (dv_call q (ok_less B) (by decide) (da_cons (dv_call q (ok_water B) (by decide) (da_cons (dv_var 0) (da_cons (dv_var 8) da_nil))) (da_cons (dv_tup (da_cons (dv_var 1) (da_cons dv_int da_nil))) da_nil))))))
    (dss_cons (ds_if (dt_w (dw_and (dt_tru q (dv_var 9)) (dw_and1 (dt_cmp c_is (dv_var 6) dv_non)))) (dss_one (ds_set 6 q (de_fz (dv_var 8)))) dss_nil)
    (dss_cons (ds_set 10 q (de_fz (dv_cmp (c_eq q).i (dv_add q (dv_var 7) dv_int) (dv_len q B.n_len (dv_var 4)))))
    (dss_cons (ds_if (dt_not (dt_tru q (dv_var 10))) (dss_cons (ds_set 11 q (de_fz (dv_call q (ok_times B) (by decide) (da_cons (dv_call q (ok_plus B) (by decide) (da_cons (dv_var 8) (da_cons (dv_ix q (dv_var 4) (dv_add q (dv_var 7) dv_int)) da_nil))) (da_cons (dv_tup (da_cons dv_int (da_cons dv_int da_nil))) da_nil)))))
    (dss_one (ds_set 10 q (de_fz (dv_call q (ok_less B) (by decide) (da_cons (dv_call q (ok_water B) (by decide) (da_cons (dv_var 0) (da_cons (dv_var 11) da_nil))) (da_cons (dv_tup (da_cons (dv_var 1) (da_cons dv_int da_nil))) da_nil))))))) dss_nil)
    (dss_one (ds_if (dt_w (dw_and (dt_cmp c_isnot (dv_var 6) dv_non) (dw_and1 (dt_tru q (dv_var 10))))) (dss_cons (ds_expr (dv_append q 5 (pv 5) (dv_tup (da_cons (dv_var 6) (da_cons (dv_var 8) da_nil)))))
    (dss_one (ds_set 6 q (de_fz dv_non)))) dss_nil)))))))
    (dss_one (ds_ret (dv_var 5)))))))))
def m_is_point : M Unit Out :=
  (mSeq (mIf ((mOr (mNot (mTruth (mIsi Ty.tuple (mVar 0)))) (mOr ((mB (mOp opNe (mUn opLen (mVar 0)) (mRet (.int 3))))) (mNot (mTruth (mCall g_is_whole (mCons (mOp opIx (mVar 0) (mRet (.int 0))) (mCons (mRet (.int 0)) (mCons (mRet (PyData.int 100000)) (mRet [])))))))))) (mReturn (mRet (.bool false))) (mRet .nx))
  (mReturn (mAndV (mCall g_is_whole (mCons (mOp opIx (mVar 0) (mRet (.int 1))) (mCons (mOp opSub (mRet (.int 0)) (mRet (PyData.int 1000))) (mCons (mRet (PyData.int 1000)) (mRet []))))) (mCall g_is_whole (mCons (mOp opIx (mVar 0) (mRet (.int 2))) (mCons (mOp opSub (mRet (.int 0)) (mRet (PyData.int 1000))) (mCons (mRet (PyData.int 1000)) (mRet []))))))))
def g_is_point : List D → Rp := fnP 1 1 m_is_point
theorem ok_is_point (B : BB K mg base cls) : DefP P w K mg base cls "is_point" 2 ["thing"] g_is_point :=
  okD (k := 1) (m := m_is_point) B.d_is_point sc_is_point rfl (fun f cdv A outer s H E hr => by
    have q := Cur.pure (X := cxOf (L2.CX P w) P w K mg base N_is_point "is_point" (defScope s_is_point) f cdv A outer s H E) (W := WofE E) (k := 1) (cls := cls) (takes_of rfl rfl rfl rfl) hr rfl rfl sc_is_point.nd
    exact DSs.two (
    (dss_cons (ds_if (dt_w (dw_or (dt_not (dt_tru q (dv_isi q Ty.tuple B.n_isinstance B.n_tuple PyProof.Rows.boot_tuple (dv_var 0)))) (dw_or (dt_cmp (c_ne q).i (dv_len q B.n_len (dv_var 0)) dv_int) (dw_or1 (dt_not (dt_tru q (dv_call q (ok_is_whole B) (by decide) (da_cons (dv_ix q (dv_var 0) dv_int) (da_cons dv_int (da_cons (dv_c_LATE B) da_nil)))))))))) (dss_one (ds_ret dv_bl)) dss_nil)
    (dss_one (ds_ret (dv_and (dv_call q (ok_is_whole B) (by decide) (da_cons (dv_ix q (dv_var 0) dv_int) (da_cons (dv_sub dv_int (dv_c_FAR B)) (da_cons (dv_c_FAR B) da_nil)))) (dv_one (dv_call q (ok_is_whole B) (by decide) (da_cons (dv_ix q (dv_var 0) dv_int) (da_cons (dv_sub dv_int (dv_c_FAR B)) (da_cons (dv_c_FAR B) da_nil)))))))))))
def m_is_track : M Unit Out :=
  (mSeq (mIf ((mOr (mNot (mTruth (mIsi Ty.tuple (mVar 0)))) (mOr (mNot ((mB (mChain opLe opLe (mRet (.int 2)) (mUn opLen (mVar 0)) (mRet (.int 60)))))) (mNot (mTruth (mUn opAll (mFrz (mLc [1] (mIter (mVar 0)) (pName 1) (mRet true) (mCall g_is_point (mCons (mVar 1) (mRet []))))))))))) (mReturn (mRet (.bool false))) (mRet .nx))
  (mReturn (mUn opAll (mFrz (mLc [1, 2] (mZip (mVar 0) (mSl (mVar 0) (mSome (mRet (.int 1))) (mRet none))) (pTup 2 (pCons (pName 1) (pCons (pName 2) pNil))) (mRet true) (mOp opLt (mOp opIx (mVar 1) (mRet (.int 0))) (mOp opIx (mVar 2) (mRet (.int 0)))))))))
def g_is_track : List D → Rp := fnP 1 3 m_is_track
theorem ok_is_track (B : BB K mg base cls) : DefP P w K mg base cls "is_track" 3 ["thing"] g_is_track :=
  okD (k := 2) (m := m_is_track) B.d_is_track sc_is_track rfl (fun f cdv A outer s H E hr => by
    have q := Cur.pure (X := cxOf (L2.CX P w) P w K mg base N_is_track "is_track" (defScope s_is_track) f cdv A outer s H E) (W := WofE E) (k := 2) (cls := cls) (takes_of rfl rfl rfl rfl) hr rfl rfl sc_is_track.nd
    exact DSs.two (
    (dss_cons (ds_if (dt_w (dw_or (dt_not (dt_tru q (dv_isi q Ty.tuple B.n_isinstance B.n_tuple PyProof.Rows.boot_tuple (dv_var 0)))) (dw_or (dt_not (dt_chain c_le.i c_le.i dv_int (dv_len q B.n_len (dv_var 0)) dv_int)) (dw_or1 (dt_not (dt_tru q (dv_all q B.n_all (dv_frz (de_lc q [1] rfl (by decide) (di_seq q (dv_var 0)) (blkOk_by (own := [("one", 1)]) (N := N_is_track) (sc := defScope s_is_track) (by decide +kernel)) (fun _ _ _ _ _ q1 => (dg_name 1 q1)) (fun _ _ _ _ _ q1 => dts_nil) (fun _ _ _ _ _ q1 => (dv_call q1 (ok_is_point B) (by decide) (da_cons (dv_var 1) da_nil)))))))))))) (dss_one (ds_ret dv_bl)) dss_nil)
    (dss_one (ds_ret (dv_all q B.n_all (dv_frz (de_lc q [1, 2] rfl (by decide) (di_zip q B.n_zip (dv_var 0) (dv_sl q (dv_var 0) (do_some dv_int) do_none)) (blkOk_by (own := [("one", 1), ("other", 2)]) (N := N_is_track) (sc := defScope s_is_track) (by decide +kernel)) (fun _ _ _ _ _ q1 => (dg_tup 2 q1 (dgs_cons (dg_name 1 q1) (dgs_cons (dg_name 2 q1) dgs_nil)))) (fun _ _ _ _ _ q1 => dts_nil) (fun _ _ _ _ _ q1 => (dv_cmp c_lt.i (dv_ix q1 (dv_var 1) dv_int) (dv_ix q1 (dv_var 2) dv_int)))))))))))
def m_is_gate : M Unit Out :=
  (mSeq (mIf ((mOr (mNot (mTruth (mIsi Ty.tuple (mVar 0)))) (mOr ((mB (mOp opNe (mUn opLen (mVar 0)) (mRet (.int 4))))) (mNot (mTruth (mUn opAll (mFrz (mLc [1] (mIter (mVar 0)) (pName 1) (mRet true) (mCall g_is_whole (mCons (mVar 1) (mCons (mOp opSub (mRet (.int 0)) (mRet (PyData.int 1000))) (mCons (mRet (PyData.int 1000)) (mRet []))))))))))))) (mReturn (mRet (.bool false))) (mRet .nx))
  (mReturn (mOp opNe (mSl (mVar 0) (mRet none) (mSome (mRet (.int 2)))) (mSl (mVar 0) (mSome (mRet (.int 2))) (mRet none)))))
def g_is_gate : List D → Rp := fnP 1 2 m_is_gate
theorem ok_is_gate (B : BB K mg base cls) : DefP P w K mg base cls "is_gate" 2 ["thing"] g_is_gate :=
  okD (k := 1) (m := m_is_gate) B.d_is_gate sc_is_gate rfl (fun f cdv A outer s H E hr => by
    have q := Cur.pure (X := cxOf (L2.CX P w) P w K mg base N_is_gate "is_gate" (defScope s_is_gate) f cdv A outer s H E) (W := WofE E) (k := 1) (cls := cls) (takes_of rfl rfl rfl rfl) hr rfl rfl sc_is_gate.nd
    exact DSs.two (
    (dss_cons (ds_if (dt_w (dw_or (dt_not (dt_tru q (dv_isi q Ty.tuple B.n_isinstance B.n_tuple PyProof.Rows.boot_tuple (dv_var 0)))) (dw_or (dt_cmp (c_ne q).i (dv_len q B.n_len (dv_var 0)) dv_int) (dw_or1 (dt_not (dt_tru q (dv_all q B.n_all (dv_frz (de_lc q [1] rfl (by decide) (di_seq q (dv_var 0)) (blkOk_by (own := [("one", 1)]) (N := N_is_gate) (sc := defScope s_is_gate) (by decide +kernel)) (fun _ _ _ _ _ q1 => (dg_name 1 q1)) (fun _ _ _ _ _ q1 => dts_nil) (fun _ _ _ _ _ q1 => (dv_call q1 (ok_is_whole B) (by decide) (da_cons (dv_var 1) (da_cons (dv_sub dv_int (dv_c_FAR B)) (da_cons (dv_c_FAR B) da_nil)))))))))))))) (dss_one (ds_ret dv_bl)) dss_nil)
    (dss_one (ds_ret (dv_cmp (c_ne q).i (dv_sl q (dv_var 0) do_none (do_some dv_int)) (dv_sl q (dv_var 0) (do_some dv_int) do_none)))))))
def m_is_course : M Unit Out :=
  (mReturn (mAndV (mIsi Ty.tuple (mVar 0)) (mAndV (mChain opLe opLe (mRet (.int 2)) (mUn opLen (mVar 0)) (mRet (.int 8))) (mUn opAll (mFrz (mLc [1] (mIter (mVar 0)) (pName 1) (mRet true) (mCall g_is_gate (mCons (mVar 1) (mRet [])))))))))
def g_is_course : List D → Rp := fnP 1 2 m_is_course
theorem ok_is_course (B : BB K mg base cls) : DefP P w K mg base cls "is_course" 3 ["thing"] g_is_course :=
  okD (k := 2) (m := m_is_course) B.d_is_course sc_is_course rfl (fun f cdv A outer s H E hr => by
    have q := Cur.pure (X := cxOf (L2.CX P w) P w K mg base N_is_course "is_course" (defScope s_is_course) f cdv A outer s H E) (W := WofE E) (k := 2) (cls := cls) (takes_of rfl rfl rfl rfl) hr rfl rfl sc_is_course.nd
    exact DSs.two (
    (dss_one (ds_ret (dv_and (dv_isi q Ty.tuple B.n_isinstance B.n_tuple PyProof.Rows.boot_tuple (dv_var 0)) (dv_and (dv_chain c_le.i c_le.i dv_int (dv_len q B.n_len (dv_var 0)) dv_int) (dv_one (dv_all q B.n_all (dv_frz (de_lc q [1] rfl (by decide) (di_seq q (dv_var 0)) (blkOk_by (own := [("one", 1)]) (N := N_is_course) (sc := defScope s_is_course) (by decide +kernel)) (fun _ _ _ _ _ q1 => (dg_name 1 q1)) (fun _ _ _ _ _ q1 => dts_nil) (fun _ _ _ _ _ q1 => (dv_call q1 (ok_is_gate B) (by decide) (da_cons (dv_var 1) da_nil)))))))))))))
def m_side : M Unit Out :=
  (mReturn (mOp opSub (mOp opMul (mOp opSub (mOp opIx (mVar 0) (mRet (.int 2))) (mOp opIx (mVar 0) (mRet (.int 0)))) (mOp opSub (mVar 2) (mOp opIx (mVar 0) (mRet (.int 1))))) (mOp opMul (mOp opSub (mOp opIx (mVar 0) (mRet (.int 3))) (mOp opIx (mVar 0) (mRet (.int 1)))) (mOp opSub (mVar 1) (mOp opIx (mVar 0) (mRet (.int 0)))))))
def g_side : List D → Rp := fnP 3 3 m_side
theorem ok_side (B : BB K mg base cls) : DefP P w K mg base cls "side" 1 ["gate", "x", "y"] g_side :=
  okD (k := 0) (m := m_side) B.d_side sc_side rfl (fun f cdv A outer s H E hr => by
    have q := Cur.pure (X := cxOf (L2.CX P w) P w K mg base N_side "side" (defScope s_side) f cdv A outer s H E) (W := WofE E) (k := 0) (cls := cls) (takes_of rfl rfl rfl rfl) hr rfl rfl sc_side.nd
    exact DSs.two (
    (dss_one (ds_ret (dv_sub (dv_mul (dv_sub (dv_ix q (dv_var 0) dv_int) (dv_ix q (dv_var 0) dv_int)) (dv_sub (dv_var 2) (dv_ix q (dv_var 0) dv_int))) (dv_mul (dv_sub (dv_ix q (dv_var 0) dv_int) (dv_ix q (dv_var 0) dv_int)) (dv_sub (dv_var 1) (dv_ix q (dv_var 0) dv_int))))))))
def m_is_on : M Unit Out :=
  (mSeq (mSets (mSCons (mFz (mOp opSub (mOp opIx (mVar 0) (mRet (.int 2))) (mOp opIx (mVar 0) (mRet (.int 0))))) (mSCons (mFz (mOp opSub (mOp opIx (mVar 0) (mRet (.int 3))) (mOp opIx (mVar 0) (mRet (.int 1))))) mSNil)) [4, 5])
  (mSeq (mSet 6 (mFz (mOp opAdd (mOp opMul (mOp opSub (mVar 1) (mOp opMul (mOp opIx (mVar 0) (mRet (.int 0))) (mVar 3))) (mVar 4)) (mOp opMul (mOp opSub (mVar 2) (mOp opMul (mOp opIx (mVar 0) (mRet (.int 1))) (mVar 3))) (mVar 5)))))
  (mReturn (mChain opLe opLe (mRet (.int 0)) (mVar 6) (mOp opMul (mOp opAdd (mOp opMul (mVar 4) (mVar 4)) (mOp opMul (mVar 5) (mVar 5))) (mVar 3))))))
def g_is_on : List D → Rp := fnP 4 7 m_is_on
theorem ok_is_on (B : BB K mg base cls) : DefP P w K mg base cls "is_on" 1 ["gate", "x", "y", "below"] g_is_on :=
  okD (k := 0) (m := m_is_on) B.d_is_on sc_is_on rfl (fun f cdv A outer s H E hr => by
    have q := Cur.pure (X := cxOf (L2.CX P w) P w K mg base N_is_on "is_on" (defScope s_is_on) f cdv A outer s H E) (W := WofE E) (k := 0) (cls := cls) (takes_of rfl rfl rfl rfl) hr rfl rfl sc_is_on.nd
    exact DSs.two (
    (dss_cons (ds_par 4 5 q (das_cons (de_fz (dv_sub (dv_ix q (dv_var 0) dv_int) (dv_ix q (dv_var 0) dv_int))) (das_cons (de_fz (dv_sub (dv_ix q (dv_var 0) dv_int) (dv_ix q (dv_var 0) dv_int))) das_nil)))
    (dss_cons (ds_set 6 q (de_fz (dv_add q (dv_mul (dv_sub (dv_var 1) (dv_mul (dv_ix q (dv_var 0) dv_int) (dv_var 3))) (dv_var 4)) (dv_mul (dv_sub (dv_var 2) (dv_mul (dv_ix q (dv_var 0) dv_int) (dv_var 3))) (dv_var 5)))))
    (dss_one (ds_ret (dv_chain c_le.i c_le.i dv_int (dv_var 6) (dv_mul (dv_add q (dv_mul (dv_var 4) (dv_var 4)) (dv_mul (dv_var 5) (dv_var 5))) (dv_var 3)))))))))
def bd_all_crossings_0 : M Unit Out :=
  (mSeq (mSets (mSCons (mFz (mCall g_side (mCons (mVar 1) (mCons (mOp opIx (mVar 4) (mRet (.int 1))) (mCons (mOp opIx (mVar 4) (mRet (.int 2))) (mRet [])))))) (mSCons (mFz (mCall g_side (mCons (mVar 1) (mCons (mOp opIx (mVar 5) (mRet (.int 1))) (mCons (mOp opIx (mVar 5) (mRet (.int 2))) (mRet [])))))) mSNil)) [6, 7])
  (mSeq (mIf ((mB (mOp opEq (mVar 7) (mRet (.int 0))))) (mRet .ct) (mRet .nx))
  (mSeq (mIf ((mAnd ((mB (mOp opNe (mVar 3) (mRet (.int 0))))) ((mB (mOp opNe (mOp opGt (mVar 3) (mRet (.int 0))) (mOp opGt (mVar 7) (mRet (.int 0)))))))) (mSeq (mSet 8 (mFz (mIf ((mB (mOp opGt (mVar 6) (mVar 7)))) (mOp opSub (mVar 6) (mVar 7)) (mOp opSub (mVar 7) (mVar 6)))))
  (mSeq (mSet 9 (mFz (mIf ((mB (mOp opGt (mVar 6) (mVar 7)))) (mVar 6) (mOp opSub (mRet (.int 0)) (mVar 6)))))
  (mSeq (mSet 10 (mFz (mOp opAdd (mOp opMul (mOp opIx (mVar 4) (mRet (.int 1))) (mVar 8)) (mOp opMul (mOp opSub (mOp opIx (mVar 5) (mRet (.int 1))) (mOp opIx (mVar 4) (mRet (.int 1)))) (mVar 9)))))
  (mSeq (mSet 11 (mFz (mOp opAdd (mOp opMul (mOp opIx (mVar 4) (mRet (.int 2))) (mVar 8)) (mOp opMul (mOp opSub (mOp opIx (mVar 5) (mRet (.int 2))) (mOp opIx (mVar 4) (mRet (.int 2)))) (mVar 9)))))
  (mIf (mTruth (mCall g_is_on (mCons (mVar 1) (mCons (mVar 10) (mCons (mVar 11) (mCons (mVar 8) (mRet []))))))) (mSeq (mSet 12 (mFz (mCall g_plus (mCons (mTup (mCons (mOp opIx (mVar 4) (mRet (.int 0))) (mCons (mRet (.int 1)) (mRet [])))) (mCons (mCall g_share (mCons (mOp opMul (mOp opSub (mOp opIx (mVar 5) (mRet (.int 0))) (mOp opIx (mVar 4) (mRet (.int 0)))) (mVar 9)) (mCons (mVar 8) (mRet [])))) (mRet []))))))
  (mExpr (mAppend 2 (mTup (mCons (mVar 12) (mCons (mIf ((mB (mOp opGt (mVar 3) (mRet (.int 0))))) (mRet (.int 1)) (mOp opSub (mRet (.int 0)) (mRet (.int 1)))) (mRet []))))))) (mRet .nx)))))) (mRet .nx))
  (mSet 3 (mFz (mVar 7))))))
def m_all_crossings : M Unit Out :=
  (mSeq (mSets (mSCons (mLst (mRet [])) (mSCons (mFz (mCall g_side (mCons (mVar 1) (mCons (mOp opIx (mOp opIx (mVar 0) (mRet (.int 0))) (mRet (.int 1))) (mCons (mOp opIx (mOp opIx (mVar 0) (mRet (.int 0))) (mRet (.int 2))) (mRet [])))))) mSNil)) [2, 3])
  (mSeq (mFor (mZip (mVar 0) (mSl (mVar 0) (mSome (mRet (.int 1))) (mRet none))) (pTup 2 (pCons (pName 4) (pCons (pName 5) pNil))) bd_all_crossings_0)
  (mReturn (mVar 2))))
def g_all_crossings : List D → Rp := fnP 2 13 m_all_crossings
theorem ok_all_crossings (B : BB K mg base cls) : DefP P w K mg base cls "all_crossings" 4 ["track", "gate"] g_all_crossings :=
  okD (k := 3) (m := m_all_crossings) B.d_all_crossings sc_all_crossings rfl (fun f cdv A outer s H E hr => by
    have pw : PassesOwn (model P w) (A.deeper (PyProof.Rows.envOfC "all_crossings" (defScope s_all_crossings) s.heap.objs.size f cdv)) (PyProof.Rows.envOfC "all_crossings" (defScope s_all_crossings) s.heap.objs.size f cdv) (cxOf (L2.CX P w) P w K mg base N_all_crossings "all_crossings" (defScope s_all_crossings) f cdv A outer s H E).xe := passes_of (X := cxOf (L2.CX P w) P w K mg base N_all_crossings "all_crossings" (defScope s_all_crossings) f cdv A outer s H E) rfl
    have q := Cur.pure (X := cxOf (L2.CX P w) P w K mg base N_all_crossings "all_crossings" (defScope s_all_crossings) f cdv A outer s H E) (W := WofE E) (k := 3) (cls := cls) (takes_of rfl rfl rfl rfl) hr rfl rfl sc_all_crossings.nd
    exact DSs.two (
    (dss_cons (ds_par 2 3 q (das_cons (de_lst da_nil) (das_cons (de_fz (dv_call q (ok_side B) (by decide) (da_cons (dv_var 1) (da_cons (dv_ix q (dv_ix q (dv_var 0) dv_int) dv_int) (da_cons (dv_ix q (dv_ix q (dv_var 0) dv_int) dv_int) da_nil))))) das_nil)))
    (dss_cons (ds_for q pw (di_zip q B.n_zip (dv_var 0) (dv_sl q (dv_var 0) (do_some dv_int) do_none)) (dg_tup 2 q (dgs_cons (dg_name 4 q) (dgs_cons (dg_name 5 q) dgs_nil))) (dss_cons (ds_par 6 7 q (das_cons (de_fz (dv_call q (ok_side B) (by decide) (da_cons (dv_var 1) (da_cons (dv_ix q (dv_var 4) dv_int) (da_cons (dv_ix q (dv_var 4) dv_int) da_nil))))) (das_cons (de_fz (dv_call q (ok_side B) (by decide) (da_cons (dv_var 1) (da_cons (dv_ix q (dv_var 5) dv_int) (da_cons (dv_ix q (dv_var 5) dv_int) da_nil))))) das_nil)))
    (dss_cons (ds_if (dt_cmp (c_eq q).i (dv_var 7) dv_int) (dss_one ds_cont) dss_nil)
    (dss_cons (ds_if (dt_w (dw_and (dt_cmp (c_ne q).i (dv_var 3) dv_int) (dw_and1 (dt_cmp (c_ne q).i (dv_cmp c_gt.i (dv_var 3) dv_int) (dv_cmp c_gt.i (dv_var 7) dv_int))))) (dss_cons (ds_set 8 q (de_fz (dv_if (dt_cmp c_gt.i (dv_var 6) (dv_var 7)) (dv_sub (dv_var 6) (dv_var 7)) (dv_sub (dv_var 7) (dv_var 6)))))
    (dss_cons (ds_set 9 q (de_fz (dv_if (dt_cmp c_gt.i (dv_var 6) (dv_var 7)) (dv_var 6) (dv_sub dv_int (dv_var 6)))))
    (dss_cons (ds_set 10 q (de_fz (dv_add q (dv_mul (dv_ix q (dv_var 4) dv_int) (dv_var 8)) (dv_mul (dv_sub (dv_ix q (dv_var 5) dv_int) (dv_ix q (dv_var 4) dv_int)) (dv_var 9)))))
    (dss_cons (ds_set 11 q (de_fz (dv_add q (dv_mul (dv_ix q (dv_var 4) dv_int) (dv_var 8)) (dv_mul (dv_sub (dv_ix q (dv_var 5) dv_int) (dv_ix q (dv_var 4) dv_int)) (dv_var 9)))))
    (dss_one (ds_if (dt_tru q (dv_call q (ok_is_on B) (by decide) (da_cons (dv_var 1) (da_cons (dv_var 10) (da_cons (dv_var 11) (da_cons (dv_var 8) da_nil)))))) (dss_cons (ds_set 12 q (de_fz (dv_call q (ok_plus B) (by decide) (da_cons (dv_tup (da_cons (dv_ix q (dv_var 4) dv_int) (da_cons dv_int da_nil))) (da_cons (dv_call q (ok_share B) (by decide) (da_cons (dv_mul (dv_sub (dv_ix q (dv_var 5) dv_int) (dv_ix q (dv_var 4) dv_int)) (dv_var 9)) (da_cons (dv_var 8) da_nil))) da_nil)))))
    (dss_one (ds_expr (dv_append q 2 (pv 2) (dv_tup (da_cons (dv_var 12) (da_cons (dv_if (dt_cmp c_gt.i (dv_var 3) dv_int) dv_int (dv_sub dv_int dv_int)) da_nil))))))) dss_nil)))))) dss_nil)
    (dss_one (ds_set 3 q (de_fz (dv_var 7))))))))
    (dss_one (ds_ret (dv_var 2)))))))
def m_crossings : M Unit Out :=
  (mSeq (mIf (mNot (mTruth (mCall g_is_track (mCons (mVar 0) (mRet []))))) (mRaise 4) (mRet .nx))
  (mSeq (mIf (mNot (mTruth (mCall g_is_gate (mCons (mVar 1) (mRet []))))) (mRaise 5) (mRet .nx))
  (mReturn (mCall g_all_crossings (mCons (mVar 0) (mCons (mVar 1) (mRet [])))))))
def g_crossings : List D → Rp := fnP 2 2 m_crossings
theorem ok_crossings (B : BB K mg base cls) : DefP P w K mg base cls "crossings" 5 ["track", "gate"] g_crossings :=
  okD (k := 4) (m := m_crossings) B.d_crossings sc_crossings rfl (fun f cdv A outer s H E hr => by
    have q := Cur.pure (X := cxOf (L2.CX P w) P w K mg base N_crossings "crossings" (defScope s_crossings) f cdv A outer s H E) (W := WofE E) (k := 4) (cls := cls) (takes_of rfl rfl rfl rfl) hr rfl rfl sc_crossings.nd
    exact DSs.two (
    (dss_cons (ds_if (dt_not (dt_tru q (dv_call q (ok_is_track B) (by decide) (da_cons (dv_var 0) da_nil)))) (dss_one (ds_raise 4 q (B.e_NoTrack))) dss_nil)
    (dss_cons (ds_if (dt_not (dt_tru q (dv_call q (ok_is_gate B) (by decide) (da_cons (dv_var 1) da_nil)))) (dss_one (ds_raise 5 q (B.e_NoGate))) dss_nil)
    (dss_one (ds_ret (dv_call q (ok_all_crossings B) (by decide) (da_cons (dv_var 0) (da_cons (dv_var 1) da_nil)))))))))
def bd_start_of_0 : M Unit Out :=
  (mSeq (mIf (mTruth (mCall g_less (mCons (mVar 4) (mCons (mTup (mCons (mVar 1) (mCons (mRet (.int 1)) (mRet [])))) (mRet []))))) (mSet 3 (mFz (mOp opGt (mOp opAdd (mVar 2) (mVar 5)) (mRet (.int 0))))) (mIf ((mAnd ((mB (mOp opEq (mVar 5) (mRet (.int 1))))) ((mB (mOp opLe (mVar 2) (mRet (.int 0))))))) (mReturn (mTup (mCons (mVar 4) (mCons (mVar 3) (mRet []))))) (mRet .nx)))
  (mAug 2 opAddI (mVar 5)))
def m_start_of : M Unit Out :=
  (mSeq (mSets (mSCons (mFz (mRet (.int 0))) (mSCons (mFz (mRet (.bool false))) mSNil)) [2, 3])
  (mSeq (mFor (mIter (mVar 0)) (pTup 2 (pCons (pName 4) (pCons (pName 5) pNil))) bd_start_of_0)
  (mReturn (mTup (mCons (mRet .none) (mCons (mVar 3) (mRet [])))))))
def g_start_of : List D → Rp := fnP 2 6 m_start_of
theorem ok_start_of (B : BB K mg base cls) : DefP P w K mg base cls "start_of" 2 ["some", "gun"] g_start_of :=
  okD (k := 1) (m := m_start_of) B.d_start_of sc_start_of rfl (fun f cdv A outer s H E hr => by
    have pw : PassesOwn (model P w) (A.deeper (PyProof.Rows.envOfC "start_of" (defScope s_start_of) s.heap.objs.size f cdv)) (PyProof.Rows.envOfC "start_of" (defScope s_start_of) s.heap.objs.size f cdv) (cxOf (L2.CX P w) P w K mg base N_start_of "start_of" (defScope s_start_of) f cdv A outer s H E).xe := passes_of (X := cxOf (L2.CX P w) P w K mg base N_start_of "start_of" (defScope s_start_of) f cdv A outer s H E) rfl
    have q := Cur.pure (X := cxOf (L2.CX P w) P w K mg base N_start_of "start_of" (defScope s_start_of) f cdv A outer s H E) (W := WofE E) (k := 1) (cls := cls) (takes_of rfl rfl rfl rfl) hr rfl rfl sc_start_of.nd
    exact DSs.two (
    (dss_cons (ds_tupset q 2 rfl (pgn_cons 2 q.nd (pgn_cons 3 q.nd pgn_nil)) (das_cons (de_fz dv_int) (das_cons (de_fz dv_bl) das_nil)))
    (dss_cons (ds_for q pw (di_seq q (dv_var 0)) (dg_tup 2 q (dgs_cons (dg_name 4 q) (dgs_cons (dg_name 5 q) dgs_nil))) (dss_cons (ds_if (dt_tru q (dv_call q (ok_less B) (by decide) (da_cons (dv_var 4) (da_cons (dv_tup (da_cons (dv_var 1) (da_cons dv_int da_nil))) da_nil)))) (dss_one (ds_set 3 q (de_fz (dv_cmp c_gt.i (dv_add q (dv_var 2) (dv_var 5)) dv_int)))) (dss_one (ds_if (dt_w (dw_and (dt_cmp (c_eq q).i (dv_var 5) dv_int) (dw_and1 (dt_cmp c_le.i (dv_var 2) dv_int)))) (dss_one (ds_ret (dv_tup (da_cons (dv_var 4) (da_cons (dv_var 3) da_nil))))) dss_nil)))
    (dss_one (ds_aug 2 q ip_add rv_ip_add (dv_var 5)))))
    (dss_one (ds_ret (dv_tup (da_cons dv_non (da_cons (dv_var 3) da_nil)))))))))
def bd_sailed_0 : M Unit Out :=
  (mSeq (mSet 8 (mLc [9, 10] (mIter (mCall g_all_crossings (mCons (mVar 0) (mCons (mVar 7) (mRet []))))) (pTup 2 (pCons (pName 9) (pCons (pName 10) pNil))) ((mAnd ((mB (mOp opEq (mVar 10) (mRet (.int 1))))) (mTruth (mCall g_less (mCons (mVar 5) (mCons (mVar 9) (mRet []))))))) (mVar 9)))
  (mSeq (mIf ((mB (mOp opEq (mVar 8) (mFrz (mLst (mRet [])))))) (mReturn (mTup (mCons (mRet (.str "DNF")) (mCons (mOp opAdd (mVar 6) (mRet (.int 1))) (mRet []))))) (mRet .nx))
  (mSet 5 (mFz (mOp opIx (mVar 8) (mRet (.int 0)))))))
def m_sailed : M Unit Out :=
  (mSeq (mIf (mNot (mTruth (mCall g_is_track (mCons (mVar 0) (mRet []))))) (mRaise 4) (mRet .nx))
  (mSeq (mIf (mNot (mTruth (mCall g_is_course (mCons (mVar 1) (mRet []))))) (mRaise 6) (mRet .nx))
  (mSeq (mIf (mNot (mTruth (mCall g_is_whole (mCons (mVar 2) (mCons (mRet (.int 0)) (mCons (mRet (PyData.int 100000)) (mRet []))))))) (mRaise 3) (mRet .nx))
  (mSeq (mSetG (pTup 2 (pCons (pName 3) (pCons (pName 4) pNil))) (mCall g_start_of (mCons (mCall g_all_crossings (mCons (mVar 0) (mCons (mOp opIx (mVar 1) (mRet (.int 0))) (mRet [])))) (mCons (mVar 2) (mRet [])))))
  (mSeq (mIf ((mB (mOp opIs (mVar 3) (mRet .none)))) (mReturn (mIf (mTruth (mVar 4)) (mTup (mCons (mRet (.str "OCS")) (mRet []))) (mTup (mCons (mRet (.str "DNS")) (mRet []))))) (mRet .nx))
  (mSeq (mSet 5 (mFz (mVar 3)))
  (mSeq (mFor (mEnumA (mSl (mVar 1) (mSome (mRet (.int 1))) (mRet none))) (pTup 2 (pCons (pName 6) (pCons (pName 7) pNil))) bd_sailed_0)
  (mReturn (mTup (mCons (mRet (.str "finished")) (mCons (mVar 3) (mCons (mVar 5) (mRet [])))))))))))))
def g_sailed : List D → Rp := fnP 3 11 m_sailed
theorem ok_sailed (B : BB K mg base cls) : DefP P w K mg base cls "sailed" 5 ["track", "course", "gun"] g_sailed :=
  okD (k := 4) (m := m_sailed) B.d_sailed sc_sailed rfl (fun f cdv A outer s H E hr => by
    have pw : PassesOwn (model P w) (A.deeper (PyProof.Rows.envOfC "sailed" (defScope s_sailed) s.heap.objs.size f cdv)) (PyProof.Rows.envOfC "sailed" (defScope s_sailed) s.heap.objs.size f cdv) (cxOf (L2.CX P w) P w K mg base N_sailed "sailed" (defScope s_sailed) f cdv A outer s H E).xe := passes_of (X := cxOf (L2.CX P w) P w K mg base N_sailed "sailed" (defScope s_sailed) f cdv A outer s H E) rfl
    have q := Cur.pure (X := cxOf (L2.CX P w) P w K mg base N_sailed "sailed" (defScope s_sailed) f cdv A outer s H E) (W := WofE E) (k := 4) (cls := cls) (takes_of rfl rfl rfl rfl) hr rfl rfl sc_sailed.nd
    exact DSs.two (
    (dss_cons (ds_if (dt_not (dt_tru q (dv_call q (ok_is_track B) (by decide) (da_cons (dv_var 0) da_nil)))) (dss_one (ds_raise 4 q (B.e_NoTrack))) dss_nil)
    (dss_cons (ds_if (dt_not (dt_tru q (dv_call q (ok_is_course B) (by decide) (da_cons (dv_var 1) da_nil)))) (dss_one (ds_raise 6 q (B.e_NoCourse))) dss_nil)
    (dss_cons (ds_if (dt_not (dt_tru q (dv_call q (ok_is_whole B) (by decide) (da_cons (dv_var 2) (da_cons dv_int (da_cons (dv_c_LATE B) da_nil)))))) (dss_one (ds_raise 3 q (B.e_NoNumber))) dss_nil)
    (dss_cons (ds_setG (dv_call q (ok_start_of B) (by decide) (da_cons (dv_call q (ok_all_crossings B) (by decide) (da_cons (dv_var 0) (da_cons (dv_ix q (dv_var 1) dv_int) da_nil))) (da_cons (dv_var 2) da_nil))) (dg_tup 2 q (dgs_cons (dg_name 3 q) (dgs_cons (dg_name 4 q) dgs_nil))))
    (dss_cons (ds_if (dt_cmp c_is (dv_var 3) dv_non) (dss_one (ds_ret (dv_if (dt_tru q (dv_var 4)) (dv_tup (da_cons dv_str da_nil)) (dv_tup (da_cons dv_str da_nil))))) dss_nil)
    (dss_cons (ds_set 5 q (de_fz (dv_var 3)))
    (dss_cons (ds_for q pw (di_enumA q B.n_enumerate (dv_sl q (dv_var 1) (do_some dv_int) do_none)) (dg_tup 2 q (dgs_cons (dg_name 6 q) (dgs_cons (dg_name 7 q) dgs_nil))) (dss_cons (ds_setLc 8 q [9, 10] rfl (by decide) (di_seq q (dv_call q (ok_all_crossings B) (by decide) (da_cons (dv_var 0) (da_cons (dv_var 7) da_nil)))) (blkOk_by (own := [("time", 9), ("way", 10)]) (N := N_sailed) (sc := defScope s_sailed) (by decide +kernel)) (fun _ _ _ _ _ q1 => (dg_tup 2 q1 (dgs_cons (dg_name 9 q1) (dgs_cons (dg_name 10 q1) dgs_nil)))) (fun _ _ _ _ _ q1 => (dts_one (dt_w (dw_and (dt_cmp (c_eq q1).i (dv_var 10) dv_int) (dw_and1 (dt_tru q1 (dv_call q1 (ok_less B) (by decide) (da_cons (dv_var 5) (da_cons (dv_var 9) da_nil))))))))) (fun _ _ _ _ _ q1 => (dv_var 9)))
    (dss_cons (ds_if (dt_cmp (c_eq q).i (dv_var 8) (dv_frz (de_lst da_nil))) (dss_one (ds_ret (dv_tup (da_cons dv_str (da_cons (dv_add q (dv_var 6) dv_int) da_nil))))) dss_nil)
    (dss_one (ds_set 5 q (de_fz (dv_ix q (dv_var 8) dv_int)))))))
    (dss_one (ds_ret (dv_tup (da_cons dv_str (da_cons (dv_var 3) (da_cons (dv_var 5) da_nil)))))))))))))))
theorem ok__law_draw (B : BB K mg base cls) : DefX P w K mg base "_law_draw" 1 ["_law_script", "_law_town", "_law_many"] (spX (CTs K cls) gDraw) :=
  okDraw B.d__law_draw sc__law_draw rfl (fun f cdv A outer s H E hr =>
    pss_cons (ps_if (pt_cmpR op_gt (pe_ix ix_list (pv 1) pe_int (fun _ _ => rfl)) pe_int (nomark _))
        (pss_cons (ps_set (i := 3) sc__law_draw.nd rfl (Or.inl rfl) (pe_op op_mod (pe_ix ix_list (pv 1) pe_int (fun _ _ => rfl)) (pv 2)))
        (pss_cons (ps_asg (pe_op op_fdivW (pe_ix ix_list (pv 1) pe_int (fun _ _ => rfl)) (pv 2)) (pg_sub (pv 1) pe_int set_list))
        (pss_one (ps_ret (pv 3))))) pss_nil)
      (pss_cons (ps_set (i := 4) sc__law_draw.nd rfl (Or.inl rfl) (pe_ix ix_list (pv 1) pe_int (fun _ _ => rfl)))
      (pss_cons (ps_augS (pv 1) pe_int pget_list pe_int ip_add set_list)
      (pss_cons (ps_if (pt_cmpR (op_eqD hr.units) (pv 0) (pe_lst pa_nil) (nomark _)) (pss_one (ps_ret (pe_op op_mod (pv 4) (pv 2)))) pss_nil)
      (pss_cons (ps_if (PW.pt (pw_and (pt_cmpR op_lt (pv 4) (pe_lenS B.n_len rfl (Or.inl rfl) rfl rfl) (nomark _)) (pw_and1 (pt_cmpR op_ge (pe_ix ix_list (pv 0) (pv 4) (fun _ _ => rfl)) (pe_op op_pow pe_int pe_int) (nomark _)))))
        (pss_cons (ps_asg (pe_op op_mod (pe_op op_fdivW (pe_ix ix_list (pv 0) (pv 4) (fun _ _ => rfl)) (pv 2)) (pe_op op_mulW (pe_op op_pow pe_int pe_int) (pe_op op_pow pe_int pe_int))) (pg_sub (pv 1) pe_int set_list))
        (pss_one (ps_ret (pe_op op_mod (pe_ix ix_list (pv 0) (pv 4) (fun _ _ => rfl)) (pv 2))))) pss_nil)
      (pss_cons (ps_set (i := 5) sc__law_draw.nd rfl (Or.inl rfl) (pe_op op_mod (pe_op op_add (pe_op op_add (pe_op op_mul (pe_ix ix_list (pv 0) (pe_op op_mod (pv 4) (pe_lenS B.n_len rfl (Or.inl rfl) rfl rfl)) (fun _ _ => rfl)) pe_int) (pe_op op_mul pe_int (pv 4))) pe_int) pe_int))
      (pss_one (ps_ret (pe_op op_mod (pe_op op_mod (pe_op op_mod (pe_op op_pow (pv 5) pe_int) pe_int) pe_int) (pv 2))))))))))
def g__law_draw : List Slot → Town → Rt Town := gDraw
def m__law_pick : M Town Out :=
  (mReturn (mOp opIx (mVar 2) (mCallT g__law_draw (mSCons (mPt 0) (mSCons (mPt 1) (mSCons (mFz (mUn opLen (mVar 2))) mSNil))))))
def g__law_pick : List Slot → Town → Rt Town := fnT 3 3 m__law_pick
theorem ok__law_pick (B : BB K mg base cls) : DefX P w K mg base "_law_pick" 2 ["_law_script", "_law_town", "_law_some"] (spX (CTs K cls) g__law_pick) :=
  okDT (k := 1) (m := m__law_pick) B.d__law_pick sc__law_pick rfl (fun f cdv A outer s H E hr => by
    exact DSs.twoT (cts_any K cls) (fun C hC =>
    have q := Cur.town (X := cxOf (L2.CX P w) P w K mg base N__law_pick "_law_pick" (defScope s__law_pick) f cdv A outer s H E) (W := WofE E) (k := 1) hC (takes_of rfl rfl rfl rfl) hr rfl rfl sc__law_pick.nd
    (dss_one (ds_ret (dv_ix q (dv_var 2) (dv_callT q hC (ok__law_draw B) (by decide) (das_cons (de_pt 0) (das_cons (de_pt 1) (das_cons (de_fz (dv_len q B.n_len (dv_var 2))) das_nil)))))))))
def m__law_which : M Nat Out :=
  (mSeq (mSet 1 (mLst (mCons (mIsW (tabW okcW 1) 0) (mCons (mIsW (tabW okcW 2) 0) (mCons (mIsW (tabW okcW 3) 0) (mCons (mIsW (tabW okcW 4) 0) (mRet [])))))))
  (mSeq (mExpr (mExtend 1 (mFrz (mLst (mCons (mIsW (tabW okcW 5) 0) (mCons (mIsW (tabW okcW 6) 0) (mCons (mIsW (tabW okcW 7) 0) (mCons (mIsW (tabW okcW 8) 0) (mRet [])))))))))
  (mSeq (mExpr (mExtend 1 (mFrz (mLst (mCons (mIsW (tabW okcW 9) 0) (mCons (mIsW (tabW okcW 10) 0) (mCons (mIsW (tabW okcW 11) 0) (mCons (mIsW (tabW okcW 12) 0) (mRet [])))))))))
  (mSeq (mExpr (mExtend 1 (mFrz (mLst (mCons (mIsW (tabW okcW 13) 0) (mCons (mIsW (tabW okcW 14) 0) (mCons (mIsW (tabW okcW 15) 0) (mCons (mIsW (tabW okcW 16) 0) (mRet [])))))))))
  (mSeq (mExpr (mExtend 1 (mFrz (mLst (mCons (mIsW (tabW okcW 17) 0) (mCons (mIsW (tabW okcW 18) 0) (mCons (mIsW (tabW okcW 19) 0) (mCons (mIsW (tabW okcW 20) 0) (mRet [])))))))))
  (mSeq (mExpr (mAppend 1 (mIsW (tabW okcW 21) 0)))
  (mSeq (mIf ((mOr ((mB (mOp opNe (mBmP opCount 1 (mRet (.bool true))) (mRet (.int 1))))) (mNot (mTruth (mIsW (tabV okcW) 0))))) (mReturn (mTup (mCons (mRet (.str "refused")) (mCons (mUn opNeg (mRet (.int 1))) (mRet []))))) (mRet .nx))
  (mReturn (mTup (mCons (mRet (.str "refused")) (mCons (mBmP opIndex 1 (mRet (.bool true))) (mRet []))))))))))))
def g__law_which : List Slot → Nat → Rt Nat := fnT 1 2 m__law_which
theorem okw__law_which (B : BB K mg base cls) : DefW P w K mg base cls "_law_which" 1 ["_law_e"] okcW g__law_which :=
  ⟨fun pn c ho hz hf => by
    obtain ⟨f, fd, F, hm, hb⟩ := B.d__law_which
    obtain ⟨aa, oe⟩ := pn
    exact ⟨f, fd, okWh (k := 0) (m := m__law_which) F sc__law_which (aa, oe) (fun cdv A fr s H E hr => by
    have q : CurB false (L2H.cxH (L2.CX P w) P w K mg base N__law_which "_law_which" (defScope s__law_which) f cdv A fr s H E (aa, oe)) (CWh K cls aa c) (WofE E) 0 cls K := ⟨by have := hr.un; show (A.deeper _).units + 64 < cLine; omega, rfl, rfl, sc__law_which.nd, rfl, fun z => nomatch z⟩
    exact DSs.twoE ((dss_cons (ds_set 1 q (de_lst (da_cons (dv_isW 0 1 (tabW okcW 1) rfl (B.w_cc c ho) hz hf List.mem_cons_self B.n_isinstance (B.e_NoShare).g (tab_of ho (B.w_k1 c ho))) (da_cons (dv_isW 0 2 (tabW okcW 2) rfl (B.w_cc c ho) hz hf List.mem_cons_self B.n_isinstance (B.e_NoTide).g (tab_of ho (B.w_k2 c ho))) (da_cons (dv_isW 0 3 (tabW okcW 3) rfl (B.w_cc c ho) hz hf List.mem_cons_self B.n_isinstance (B.e_NoNumber).g (tab_of ho (B.w_k3 c ho))) (da_cons (dv_isW 0 4 (tabW okcW 4) rfl (B.w_cc c ho) hz hf List.mem_cons_self B.n_isinstance (B.e_NoTrack).g (tab_of ho (B.w_k4 c ho))) da_nil))))))
    (dss_cons (ds_expr (dv_extend q 1 (pv 1) (dv_frz (de_lst (da_cons (dv_isW 0 5 (tabW okcW 5) rfl (B.w_cc c ho) hz hf List.mem_cons_self B.n_isinstance (B.e_NoGate).g (tab_of ho (B.w_k5 c ho))) (da_cons (dv_isW 0 6 (tabW okcW 6) rfl (B.w_cc c ho) hz hf List.mem_cons_self B.n_isinstance (B.e_NoCourse).g (tab_of ho (B.w_k6 c ho))) (da_cons (dv_isW 0 7 (tabW okcW 7) rfl (B.w_cc c ho) hz hf List.mem_cons_self B.n_isinstance (B.e_NoRule).g (tab_of ho (B.w_k7 c ho))) (da_cons (dv_isW 0 8 (tabW okcW 8) rfl (B.w_cc c ho) hz hf List.mem_cons_self B.n_isinstance (B.e_NoEntries).g (tab_of ho (B.w_k8 c ho))) da_nil))))))))
    (dss_cons (ds_expr (dv_extend q 1 (pv 1) (dv_frz (de_lst (da_cons (dv_isW 0 9 (tabW okcW 9) rfl (B.w_cc c ho) hz hf List.mem_cons_self B.n_isinstance (B.e_NoRace).g (tab_of ho (B.w_k9 c ho))) (da_cons (dv_isW 0 10 (tabW okcW 10) rfl (B.w_cc c ho) hz hf List.mem_cons_self B.n_isinstance (B.e_NoSeries).g (tab_of ho (B.w_k10 c ho))) (da_cons (dv_isW 0 11 (tabW okcW 11) rfl (B.w_cc c ho) hz hf List.mem_cons_self B.n_isinstance (B.e_NoDrops).g (tab_of ho (B.w_k11 c ho))) (da_cons (dv_isW 0 12 (tabW okcW 12) rfl (B.w_cc c ho) hz hf List.mem_cons_self B.n_isinstance (B.e_NoBoat).g (tab_of ho (B.w_k12 c ho))) da_nil))))))))
    (dss_cons (ds_expr (dv_extend q 1 (pv 1) (dv_frz (de_lst (da_cons (dv_isW 0 13 (tabW okcW 13) rfl (B.w_cc c ho) hz hf List.mem_cons_self B.n_isinstance (B.e_NoHull).g (tab_of ho (B.w_k13 c ho))) (da_cons (dv_isW 0 14 (tabW okcW 14) rfl (B.w_cc c ho) hz hf List.mem_cons_self B.n_isinstance (B.e_NoWind).g (tab_of ho (B.w_k14 c ho))) (da_cons (dv_isW 0 15 (tabW okcW 15) rfl (B.w_cc c ho) hz hf List.mem_cons_self B.n_isinstance (B.e_NoProtest).g (tab_of ho (B.w_k15 c ho))) (da_cons (dv_isW 0 16 (tabW okcW 16) rfl (B.w_cc c ho) hz hf List.mem_cons_self B.n_isinstance (B.e_NoFacts).g (tab_of ho (B.w_k16 c ho))) da_nil))))))))
    (dss_cons (ds_expr (dv_extend q 1 (pv 1) (dv_frz (de_lst (da_cons (dv_isW 0 17 (tabW okcW 17) rfl (B.w_cc c ho) hz hf List.mem_cons_self B.n_isinstance (B.e_NoOutcome).g (tab_of ho (B.w_k17 c ho))) (da_cons (dv_isW 0 18 (tabW okcW 18) rfl (B.w_cc c ho) hz hf List.mem_cons_self B.n_isinstance (B.e_Taken).g (tab_of ho (B.w_k18 c ho))) (da_cons (dv_isW 0 19 (tabW okcW 19) rfl (B.w_cc c ho) hz hf List.mem_cons_self B.n_isinstance (B.e_NoThing).g (tab_of ho (B.w_k19 c ho))) (da_cons (dv_isW 0 20 (tabW okcW 20) rfl (B.w_cc c ho) hz hf List.mem_cons_self B.n_isinstance (B.e_NoDeed).g (tab_of ho (B.w_k20 c ho))) da_nil))))))))
    (dss_cons (ds_expr (dv_append q 1 (pv 1) (dv_isW 0 21 (tabW okcW 21) rfl (B.w_cc c ho) hz hf List.mem_cons_self B.n_isinstance (B.e_NoText).g (tab_of ho (B.w_k21 c ho)))))
    (dss_cons (ds_if (dt_w (dw_or (dt_cmp (c_ne q).i (dv_countP q 1 (pv 1) dv_bl) dv_int) (dw_or1 (dt_not (dt_tru q (dv_isWV 0 (tabV okcW) rfl (B.w_cc c ho) hz hf List.mem_cons_self B.n_isinstance B.n_ValueError (tabV_of ho (B.w_kv c ho)))))))) (dss_one (ds_ret (dv_tup (da_cons dv_str (da_cons (dv_neg dv_int) da_nil))))) dss_nil)
    (dss_one (ds_ret (dv_tup (da_cons dv_str (da_cons (dv_indexP q 1 (pv 1) dv_bl) da_nil)))))))))))))), hm, F.kp, hb⟩, B.w_ex⟩
def m__law_ask : M Town Out :=
  (mTryW 4 okcW g__law_which (mSeq (mIf ((mB (mOp opEq (mVar 0) (mRet (.int 0))))) (mReturn (mCall g_height_at (mCons (mVar 1) (mCons (mVar 2) (mRet []))))) (mRet .nx))
  (mSeq (mIf ((mB (mOp opEq (mVar 0) (mRet (.int 1))))) (mReturn (mCallTK 2 2 g_deep (mCons (mVar 1) (mCons (mVar 2) (mRet []))) (mCons (mOp opIx (mVar 3) (mRet (.int 0))) (mCons (mOp opIx (mVar 3) (mRet (.int 1))) (mRet []))))) (mRet .nx))
  (mReturn (mIf ((mB (mOp opEq (mVar 0) (mRet (.int 2))))) (mCall g_crossings (mCons (mVar 1) (mCons (mVar 2) (mRet [])))) (mCall g_sailed (mCons (mVar 1) (mCons (mVar 2) (mCons (mVar 3) (mRet []))))))))))
def g__law_ask : List Slot → Town → Rt Town := fnT 4 5 m__law_ask
theorem ok__law_ask (B : BB K mg base cls) : DefX P w K mg base "_law_ask" 6 ["_law_what", "_law_one", "_law_other", "_law_third"] (spX (CTs K cls) g__law_ask) :=
  okDT (k := 5) (m := m__law_ask) B.d__law_ask sc__law_ask rfl (fun f cdv A outer s H E hr => by
    exact DSs.twoT (cts_any K cls) (fun C hC =>
    have q := Cur.town (X := cxOf (L2.CX P w) P w K mg base N__law_ask "_law_ask" (defScope s__law_ask) f cdv A outer s H E) (W := WofE E) (k := 5) hC (takes_of rfl rfl rfl rfl) hr rfl rfl sc__law_ask.nd
    (dss_one (ds_tryW 4 q (okw__law_which B) (by decide) (B.e_RaceError).g (fun W pn xe q => (dss_cons (ds_if (dt_cmp (c_eq q).i (dv_var 0) dv_int) (dss_one (ds_ret (dv_call q (ok_height_at B) (by decide) (da_cons (dv_var 1) (da_cons (dv_var 2) da_nil))))) dss_nil)
    (dss_cons (ds_if (dt_cmp (c_eq q).i (dv_var 0) dv_int) (dss_one (ds_ret (dv_callTK (n := 2) q hC (ok_deep B) (by decide) (da_cons (dv_var 1) (da_cons (dv_var 2) da_nil)) (dk_cons (dv_ix q (dv_var 3) dv_int) (dk_cons (dv_ix q (dv_var 3) dv_int) dk_nil))))) dss_nil)
    (dss_one (ds_ret (dv_if (dt_cmp (c_eq q).i (dv_var 0) dv_int) (dv_call q (ok_crossings B) (by decide) (da_cons (dv_var 1) (da_cons (dv_var 2) da_nil))) (dv_call q (ok_sailed B) (by decide) (da_cons (dv_var 1) (da_cons (dv_var 2) (da_cons (dv_var 3) da_nil))))))))))))))
def bd__law_tides_0 : M Town Out :=
  (mSeq (mIf ((mOr ((mB (mOp opIsNot (mCall g_is_tide (mCons (mVar 3) (mRet []))) (mRet (.bool false))))) ((mB (mOp opNe (mCallT g__law_ask (mSCons (mFz (mRet (.int 0))) (mSCons (mFz (mVar 3)) (mSCons (mFz (mVar 0)) (mSCons (mFz (mRet .none)) mSNil))))) (mTup (mCons (mRet (.str "refused")) (mCons (mRet (.int 1)) (mRet []))))))))) (mReturn (mRet (.bool false))) (mRet .nx))
  (mIf ((mB (mOp opNe (mCallT g__law_ask (mSCons (mFz (mRet (.int 1))) (mSCons (mFz (mVar 3)) (mSCons (mFz (mRet .none)) (mSCons (mFz (mTup (mCons (mRet (.int 0)) (mCons (mRet (.int 5)) (mRet []))))) mSNil))))) (mTup (mCons (mRet (.str "refused")) (mCons (mRet (.int 1)) (mRet []))))))) (mReturn (mRet (.bool false))) (mRet .nx)))
def bd__law_tides_1 : M Town Out :=
  (mIf ((mB (mOp opNe (mCallT g__law_ask (mSCons (mFz (mRet (.int 1))) (mSCons (mFz (mVar 1)) (mSCons (mFz (mVar 3)) (mSCons (mFz (mTup (mCons (mRet (.int 0)) (mCons (mRet (.int 5)) (mRet []))))) mSNil))))) (mTup (mCons (mRet (.str "refused")) (mCons (mRet (.int 2)) (mRet []))))))) (mReturn (mRet (.bool false))) (mRet .nx))
def bd__law_tides_2 : M Town Out :=
  (mIf ((mB (mOp opNe (mCallT g__law_ask (mSCons (mFz (mRet (.int 1))) (mSCons (mFz (mVar 1)) (mSCons (mFz (mRet (.int 5))) (mSCons (mFz (mVar 3)) mSNil))))) (mTup (mCons (mRet (.str "refused")) (mCons (mRet (.int 2)) (mRet []))))))) (mReturn (mRet (.bool false))) (mRet .nx))
def m__law_tides : M Town Out :=
  (mSeq (mSet 1 (mFz (mTup (mCons (mTup (mCons (mRet (.int 0)) (mCons (mRet (.int 5)) (mRet [])))) (mCons (mTup (mCons (mRet (.int 9)) (mCons (mRet (.int 7)) (mRet [])))) (mRet []))))))
  (mSeq (mSet 2 (mLst (mCons (mRet .none) (mCons (mTup (mRet [])) (mCons (mTup (mCons (mTup (mCons (mRet (.int 0)) (mCons (mRet (.int 5)) (mRet [])))) (mRet []))) (mCons (mTup (mCons (mTup (mCons (mRet (.int 0)) (mCons (mRet (.int 5)) (mRet [])))) (mCons (mTup (mCons (mRet (.int 0)) (mCons (mRet (.int 6)) (mRet [])))) (mRet [])))) (mCons (mTup (mCons (mTup (mCons (mRet (.int 5)) (mCons (mRet (.int 5)) (mRet [])))) (mCons (mTup (mCons (mRet (.int 4)) (mCons (mRet (.int 6)) (mRet [])))) (mRet [])))) (mCons (mFrz (mLst (mCons (mTup (mCons (mRet (.int 0)) (mCons (mRet (.int 5)) (mRet [])))) (mCons (mTup (mCons (mRet (.int 9)) (mCons (mRet (.int 7)) (mRet [])))) (mRet []))))) (mCons (mTup (mCons (mTup (mCons (mRet (.int 0)) (mCons (mRet (.int 5)) (mRet [])))) (mCons (mTup (mCons (mRet (.int 10001)) (mCons (mRet (.int 7)) (mRet [])))) (mRet [])))) (mRet []))))))))))
  (mSeq (mExpr (mExtend 2 (mFrz (mLst (mCons (mTup (mCons (mTup (mCons (mRet (.int 0)) (mCons (mUn opNeg (mRet (.int 501))) (mRet [])))) (mCons (mTup (mCons (mRet (.int 9)) (mCons (mRet (.int 7)) (mRet [])))) (mRet [])))) (mRet []))))))
  (mSeq (mExpr (mExtend 2 (mFrz (mLst (mCons (mTup (mCons (mTup (mCons (mRet (.int 0)) (mCons (mRet (.int 5)) (mRet [])))) (mCons (mTup (mCons (mRet (.int 9)) (mRet []))) (mRet [])))) (mCons (mTup (mCons (mTup (mCons (mRet (.bool true)) (mCons (mRet (.int 5)) (mRet [])))) (mCons (mTup (mCons (mRet (.int 9)) (mCons (mRet (.int 7)) (mRet [])))) (mRet [])))) (mCons (mTup (mCons (mTup (mCons (mRet (.int 0)) (mCons (mRet (.int 3001)) (mRet [])))) (mCons (mTup (mCons (mRet (.int 9)) (mCons (mRet (.int 7)) (mRet [])))) (mRet [])))) (mCons (mTup (mCons (mTup (mCons (mRet (.int 0)) (mCons (mRet (.int 5)) (mRet [])))) (mCons (mFrz (mLst (mCons (mRet (.int 9)) (mCons (mRet (.int 7)) (mRet []))))) (mRet [])))) (mCons (mTup (mCons (mTup (mCons (mRet (.int 0)) (mCons (mRet (.int 5)) (mRet [])))) (mCons (mTup (mCons (mRet (.int 9)) (mCons (mRet (.int 6)) (mRet [])))) (mCons (mTup (mCons (mRet (.int 8)) (mCons (mRet (.int 7)) (mRet [])))) (mRet []))))) (mRet []))))))))))
  (mSeq (mExpr (mAppend 2 (mUn opTuple (mFrz (mLc [5] (mRange1 (mRet (.int 21))) (pName 5) (mRet true) (mTup (mCons (mVar 5) (mCons (mVar 5) (mRet [])))))))))
  (mSeq (mFor (mIter (mVar 2)) (pName 3) bd__law_tides_0)
  (mSeq (mFor (mIter (mTup (mCons (mRet .none) (mCons (mRet (.bool true)) (mCons (mRet (.str "5")) (mCons (mTup (mCons (mRet (.int 5)) (mCons (mRet (.int 1)) (mRet [])))) (mRet []))))))) (pName 3) bd__law_tides_1)
  (mSeq (mFor (mIter (mTup (mCons (mTup (mCons (mRet .none) (mCons (mRet (.int 5)) (mRet [])))) (mCons (mTup (mCons (mRet (.int 5)) (mCons (mRet .none) (mRet [])))) (mCons (mTup (mCons (mRet (.int 6)) (mCons (mRet (.int 5)) (mRet [])))) (mCons (mTup (mCons (mUn opNeg (mRet (.int 1))) (mCons (mRet (.int 5)) (mRet [])))) (mCons (mTup (mCons (mRet (.int 0)) (mCons (mRet (.int 10001)) (mRet [])))) (mCons (mTup (mCons (mRet (.bool true)) (mCons (mRet (.int 5)) (mRet [])))) (mCons (mTup (mCons (mRet (.int 0)) (mCons (mRet (.str "5")) (mRet [])))) (mRet [])))))))))) (pName 3) bd__law_tides_2)
  (mSeq (mSet 4 (mFz (mOp opAdd (mUn opTuple (mFrz (mLc [5] (mRange1 (mRet (.int 19))) (pName 5) (mRet true) (mTup (mCons (mVar 5) (mCons (mIf ((mB (mOp opGt (mVar 5) (mRet (.int 0))))) (mRet (.int 3000)) (mUn opNeg (mRet (.int 500)))) (mRet []))))))) (mTup (mCons (mTup (mCons (mRet (.int 10000)) (mCons (mRet (.int 0)) (mRet [])))) (mRet []))))))
  (mSeq (mIf ((mOr ((mB (mOp opIsNot (mCall g_is_tide (mCons (mVar 4) (mRet []))) (mRet (.bool true))))) ((mB (mOp opNe (mCallTK 2 2 g_deep (mCons (mVar 4) (mCons (mRet (.int 3000)) (mRet []))) (mCons (mRet (.int 0)) (mCons (mRet (.int 0)) (mRet [])))) (mFrz (mLst (mRet [])))))))) (mReturn (mRet (.bool false))) (mRet .nx))
  (mReturn (mOp opEq (mCallTK 2 2 g_deep (mCons (mVar 4) (mCons (mUn opNeg (mRet (.int 500))) (mRet []))) (mCons (mRet (.int 0)) (mCons (mRet (.int 0)) (mRet [])))) (mFrz (mLst (mCons (mTup (mCons (mTup (mCons (mRet (.int 0)) (mCons (mRet (.int 1)) (mRet [])))) (mCons (mTup (mCons (mRet (.int 0)) (mCons (mRet (.int 1)) (mRet [])))) (mRet [])))) (mRet []))))))))))))))))
def g__law_tides : List Slot → Town → Rt Town := fnT 1 6 m__law_tides
theorem ok__law_tides (B : BB K mg base cls) : DefX P w K mg base "_law_tides" 7 ["_law_odd"] (spX (CTs K cls) g__law_tides) :=
  okDT (k := 6) (m := m__law_tides) B.d__law_tides sc__law_tides rfl (fun f cdv A outer s H E hr => by
    have pw : PassesOwn (model P w) (A.deeper (PyProof.Rows.envOfC "_law_tides" (defScope s__law_tides) s.heap.objs.size f cdv)) (PyProof.Rows.envOfC "_law_tides" (defScope s__law_tides) s.heap.objs.size f cdv) (cxOf (L2.CX P w) P w K mg base N__law_tides "_law_tides" (defScope s__law_tides) f cdv A outer s H E).xe := passes_of (X := cxOf (L2.CX P w) P w K mg base N__law_tides "_law_tides" (defScope s__law_tides) f cdv A outer s H E) rfl
    exact DSs.twoT (cts_any K cls) (fun C hC =>
    have q := Cur.town (X := cxOf (L2.CX P w) P w K mg base N__law_tides "_law_tides" (defScope s__law_tides) f cdv A outer s H E) (W := WofE E) (k := 6) hC (takes_of rfl rfl rfl rfl) hr rfl rfl sc__law_tides.nd
    (dss_cons (ds_set 1 q (de_fz (dv_tup (da_cons (dv_tup (da_cons dv_int (da_cons dv_int da_nil))) (da_cons (dv_tup (da_cons dv_int (da_cons dv_int da_nil))) da_nil)))))
    (dss_cons (ds_set 2 q (de_lst (da_cons dv_non (da_cons (dv_tup da_nil) (da_cons (dv_tup (da_cons (dv_tup (da_cons dv_int (da_cons dv_int da_nil))) da_nil)) (da_cons (dv_tup (da_cons (dv_tup (da_cons dv_int (da_cons dv_int da_nil))) (da_cons (dv_tup (da_cons dv_int (da_cons dv_int da_nil))) da_nil))) (da_cons (dv_tup (da_cons (dv_tup (da_cons dv_int (da_cons dv_int da_nil))) (da_cons (dv_tup (da_cons dv_int (da_cons dv_int da_nil))) da_nil))) (da_cons (dv_frz (de_lst (da_cons (dv_tup (da_cons dv_int (da_cons dv_int da_nil))) (da_cons (dv_tup (da_cons dv_int (da_cons dv_int da_nil))) da_nil)))) (da_cons (dv_tup (da_cons (dv_tup (da_cons dv_int (da_cons dv_int da_nil))) (da_cons (dv_tup (da_cons dv_int (da_cons dv_int da_nil))) da_nil))) da_nil)))))))))
    (dss_cons (ds_expr (dv_extend q 2 (pv 2) (dv_frz (de_lst (da_cons (dv_tup (da_cons (dv_tup (da_cons dv_int (da_cons (dv_neg dv_int) da_nil))) (da_cons (dv_tup (da_cons dv_int (da_cons dv_int da_nil))) da_nil))) da_nil)))))
    (dss_cons (ds_expr (dv_extend q 2 (pv 2) (dv_frz (de_lst (da_cons (dv_tup (da_cons (dv_tup (da_cons dv_int (da_cons dv_int da_nil))) (da_cons (dv_tup (da_cons dv_int da_nil)) da_nil))) (da_cons (dv_tup (da_cons (dv_tup (da_cons dv_bl (da_cons dv_int da_nil))) (da_cons (dv_tup (da_cons dv_int (da_cons dv_int da_nil))) da_nil))) (da_cons (dv_tup (da_cons (dv_tup (da_cons dv_int (da_cons dv_int da_nil))) (da_cons (dv_tup (da_cons dv_int (da_cons dv_int da_nil))) da_nil))) (da_cons (dv_tup (da_cons (dv_tup (da_cons dv_int (da_cons dv_int da_nil))) (da_cons (dv_frz (de_lst (da_cons dv_int (da_cons dv_int da_nil)))) da_nil))) (da_cons (dv_tup (da_cons (dv_tup (da_cons dv_int (da_cons dv_int da_nil))) (da_cons (dv_tup (da_cons dv_int (da_cons dv_int da_nil))) (da_cons (dv_tup (da_cons dv_int (da_cons dv_int da_nil))) da_nil)))) da_nil)))))))))
    (dss_cons (ds_expr (dv_append q 2 (pv 2) (dv_tuple q B.n_tuple (dv_frz (de_lc q [5] rfl (by decide) (di_range1 B.n_range dv_int) (blkOk_by (own := [("_law_at", 5)]) (N := N__law_tides) (sc := defScope s__law_tides) (by decide +kernel)) (fun _ _ _ _ _ q1 => (dg_name 5 q1)) (fun _ _ _ _ _ q1 => dts_nil) (fun _ _ _ _ _ q1 => (dv_tup (da_cons (dv_var 5) (da_cons (dv_var 5) da_nil)))))))))
    (dss_cons (ds_for q pw (di_seq q (dv_var 2)) (dg_name 3 q) (dss_cons (ds_if (dt_w (dw_or (dt_cmp c_isnot (dv_call q (ok_is_tide B) (by decide) (da_cons (dv_var 3) da_nil)) dv_bl) (dw_or1 (dt_cmp (c_ne q).i (dv_callT q hC (ok__law_ask B) (by decide) (das_cons (de_fz dv_int) (das_cons (de_fz (dv_var 3)) (das_cons (de_fz (dv_var 0)) (das_cons (de_fz dv_non) das_nil))))) (dv_tup (da_cons dv_str (da_cons dv_int da_nil))))))) (dss_one (ds_ret dv_bl)) dss_nil)
    (dss_one (ds_if (dt_cmp (c_ne q).i (dv_callT q hC (ok__law_ask B) (by decide) (das_cons (de_fz dv_int) (das_cons (de_fz (dv_var 3)) (das_cons (de_fz dv_non) (das_cons (de_fz (dv_tup (da_cons dv_int (da_cons dv_int da_nil)))) das_nil))))) (dv_tup (da_cons dv_str (da_cons dv_int da_nil)))) (dss_one (ds_ret dv_bl)) dss_nil))))
    (dss_cons (ds_for q pw (di_seq q (dv_tup (da_cons dv_non (da_cons dv_bl (da_cons dv_str (da_cons (dv_tup (da_cons dv_int (da_cons dv_int da_nil))) da_nil)))))) (dg_name 3 q) (dss_one (ds_if (dt_cmp (c_ne q).i (dv_callT q hC (ok__law_ask B) (by decide) (das_cons (de_fz dv_int) (das_cons (de_fz (dv_var 1)) (das_cons (de_fz (dv_var 3)) (das_cons (de_fz (dv_tup (da_cons dv_int (da_cons dv_int da_nil)))) das_nil))))) (dv_tup (da_cons dv_str (da_cons dv_int da_nil)))) (dss_one (ds_ret dv_bl)) dss_nil)))
    (dss_cons (ds_for q pw (di_seq q (dv_tup (da_cons (dv_tup (da_cons dv_non (da_cons dv_int da_nil))) (da_cons (dv_tup (da_cons dv_int (da_cons dv_non da_nil))) (da_cons (dv_tup (da_cons dv_int (da_cons dv_int da_nil))) (da_cons (dv_tup (da_cons (dv_neg dv_int) (da_cons dv_int da_nil))) (da_cons (dv_tup (da_cons dv_int (da_cons dv_int da_nil))) (da_cons (dv_tup (da_cons dv_bl (da_cons dv_int da_nil))) (da_cons (dv_tup (da_cons dv_int (da_cons dv_str da_nil))) da_nil))))))))) (dg_name 3 q) (dss_one (ds_if (dt_cmp (c_ne q).i (dv_callT q hC (ok__law_ask B) (by decide) (das_cons (de_fz dv_int) (das_cons (de_fz (dv_var 1)) (das_cons (de_fz dv_int) (das_cons (de_fz (dv_var 3)) das_nil))))) (dv_tup (da_cons dv_str (da_cons dv_int da_nil)))) (dss_one (ds_ret dv_bl)) dss_nil)))
    (dss_cons (ds_set 4 q (de_fz (dv_add q (dv_tuple q B.n_tuple (dv_frz (de_lc q [5] rfl (by decide) (di_range1 B.n_range dv_int) (blkOk_by (own := [("_law_at", 5)]) (N := N__law_tides) (sc := defScope s__law_tides) (by decide +kernel)) (fun _ _ _ _ _ q1 => (dg_name 5 q1)) (fun _ _ _ _ _ q1 => dts_nil) (fun _ _ _ _ _ q1 => (dv_tup (da_cons (dv_var 5) (da_cons (dv_if (dt_cmp c_gt.i (dv_var 5) dv_int) dv_int (dv_neg dv_int)) da_nil))))))) (dv_tup (da_cons (dv_tup (da_cons dv_int (da_cons dv_int da_nil))) da_nil)))))
    (dss_cons (ds_if (dt_w (dw_or (dt_cmp c_isnot (dv_call q (ok_is_tide B) (by decide) (da_cons (dv_var 4) da_nil)) dv_bl) (dw_or1 (dt_cmp (c_ne q).i (dv_callTK (n := 2) q hC (ok_deep B) (by decide) (da_cons (dv_var 4) (da_cons dv_int da_nil)) (dk_cons dv_int (dk_cons dv_int dk_nil))) (dv_frz (de_lst da_nil)))))) (dss_one (ds_ret dv_bl)) dss_nil)
    (dss_one (ds_ret (dv_cmp (c_eq q).i (dv_callTK (n := 2) q hC (ok_deep B) (by decide) (da_cons (dv_var 4) (da_cons (dv_neg dv_int) da_nil)) (dk_cons dv_int (dk_cons dv_int dk_nil))) (dv_frz (de_lst (da_cons (dv_tup (da_cons (dv_tup (da_cons dv_int (da_cons dv_int da_nil))) (da_cons (dv_tup (da_cons dv_int (da_cons dv_int da_nil))) da_nil))) da_nil))))))))))))))))))
def bd__law_tracks_0 : M Town Out :=
  (mSeq (mIf ((mOr ((mB (mOp opIsNot (mCall g_is_track (mCons (mVar 5) (mRet []))) (mRet (.bool false))))) ((mB (mOp opNe (mCallT g__law_ask (mSCons (mFz (mRet (.int 2))) (mSCons (mFz (mVar 5)) (mSCons (mFz (mVar 0)) (mSCons (mFz (mRet .none)) mSNil))))) (mTup (mCons (mRet (.str "refused")) (mCons (mRet (.int 3)) (mRet []))))))))) (mReturn (mRet (.bool false))) (mRet .nx))
  (mIf ((mB (mOp opNe (mCallT g__law_ask (mSCons (mFz (mRet (.int 3))) (mSCons (mFz (mVar 5)) (mSCons (mFz (mVar 0)) (mSCons (mFz (mRet .none)) mSNil))))) (mTup (mCons (mRet (.str "refused")) (mCons (mRet (.int 3)) (mRet []))))))) (mReturn (mRet (.bool false))) (mRet .nx)))
def bd__law_tracks_1 : M Town Out :=
  (mSeq (mIf ((mOr ((mB (mOp opIsNot (mCall g_is_gate (mCons (mVar 5) (mRet []))) (mRet (.bool false))))) ((mB (mOp opIsNot (mCall g_is_course (mCons (mTup (mCons (mVar 2) (mCons (mVar 5) (mRet [])))) (mRet []))) (mRet (.bool false))))))) (mReturn (mRet (.bool false))) (mRet .nx))
  (mIf ((mB (mOp opNe (mCallT g__law_ask (mSCons (mFz (mRet (.int 2))) (mSCons (mFz (mVar 1)) (mSCons (mFz (mVar 5)) (mSCons (mFz (mRet .none)) mSNil))))) (mTup (mCons (mRet (.str "refused")) (mCons (mRet (.int 4)) (mRet []))))))) (mReturn (mRet (.bool false))) (mRet .nx)))
def bd__law_tracks_2 : M Town Out :=
  (mIf ((mOr ((mB (mOp opIsNot (mCall g_is_course (mCons (mVar 5) (mRet []))) (mRet (.bool false))))) ((mB (mOp opNe (mCallT g__law_ask (mSCons (mFz (mRet (.int 3))) (mSCons (mFz (mVar 1)) (mSCons (mFz (mVar 5)) (mSCons (mFz (mRet .none)) mSNil))))) (mTup (mCons (mRet (.str "refused")) (mCons (mRet (.int 5)) (mRet []))))))))) (mReturn (mRet (.bool false))) (mRet .nx))
def bd__law_tracks_3 : M Town Out :=
  (mIf ((mB (mOp opNe (mCallT g__law_ask (mSCons (mFz (mRet (.int 3))) (mSCons (mFz (mVar 1)) (mSCons (mFz (mTup (mCons (mVar 2) (mCons (mVar 2) (mRet []))))) (mSCons (mFz (mVar 5)) mSNil))))) (mTup (mCons (mRet (.str "refused")) (mCons (mRet (.int 2)) (mRet []))))))) (mReturn (mRet (.bool false))) (mRet .nx))
def m__law_tracks : M Town Out :=
  (mSeq (mSets (mSCons (mFz (mTup (mCons (mTup (mCons (mRet (.int 0)) (mCons (mRet (.int 0)) (mCons (mRet (.int 0)) (mRet []))))) (mCons (mTup (mCons (mRet (.int 5)) (mCons (mRet (.int 3)) (mCons (mRet (.int 3)) (mRet []))))) (mRet []))))) (mSCons (mFz (mTup (mCons (mRet (.int 0)) (mCons (mRet (.int 3)) (mCons (mRet (.int 3)) (mCons (mRet (.int 0)) (mRet []))))))) mSNil)) [1, 2])
  (mSeq (mSet 3 (mLst (mCons (mRet .none) (mCons (mTup (mRet [])) (mCons (mSl (mVar 1) (mRet none) (mSome (mRet (.int 1)))) (mCons (mTup (mCons (mOp opIx (mVar 1) (mRet (.int 0))) (mCons (mTup (mCons (mRet (.int 0)) (mCons (mRet (.int 3)) (mCons (mRet (.int 3)) (mRet []))))) (mRet [])))) (mCons (mFrz (mLst (mCons (mOp opIx (mVar 1) (mRet (.int 0))) (mCons (mOp opIx (mVar 1) (mRet (.int 1))) (mRet []))))) (mCons (mTup (mCons (mOp opIx (mVar 1) (mRet (.int 0))) (mCons (mTup (mCons (mRet (.int 5)) (mCons (mRet (.int 1001)) (mCons (mRet (.int 3)) (mRet []))))) (mRet [])))) (mRet [])))))))))
  (mSeq (mExpr (mExtend 3 (mFrz (mLst (mCons (mTup (mCons (mOp opIx (mVar 1) (mRet (.int 0))) (mCons (mTup (mCons (mRet (.int 5)) (mCons (mRet (.int 3)) (mCons (mUn opNeg (mRet (.int 1001))) (mRet []))))) (mRet [])))) (mRet []))))))
  (mSeq (mExpr (mExtend 3 (mFrz (mLst (mCons (mTup (mCons (mOp opIx (mVar 1) (mRet (.int 0))) (mCons (mTup (mCons (mRet (.int 100001)) (mCons (mRet (.int 3)) (mCons (mRet (.int 3)) (mRet []))))) (mRet [])))) (mCons (mTup (mCons (mOp opIx (mVar 1) (mRet (.int 0))) (mCons (mTup (mCons (mRet (.int 5)) (mCons (mRet (.int 3)) (mRet [])))) (mRet [])))) (mCons (mTup (mCons (mOp opIx (mVar 1) (mRet (.int 0))) (mCons (mTup (mCons (mRet (.int 5)) (mCons (mRet (.bool true)) (mCons (mRet (.int 3)) (mRet []))))) (mRet [])))) (mCons (mTup (mCons (mTup (mCons (mUn opNeg (mRet (.int 1))) (mCons (mRet (.int 0)) (mCons (mRet (.int 0)) (mRet []))))) (mCons (mOp opIx (mVar 1) (mRet (.int 1))) (mRet [])))) (mRet [])))))))))
  (mSeq (mExpr (mExtend 3 (mFrz (mLst (mCons (mOp opAdd (mVar 1) (mTup (mCons (mTup (mCons (mRet (.int 4)) (mCons (mRet (.int 0)) (mCons (mRet (.int 0)) (mRet []))))) (mRet [])))) (mCons (mUn opTuple (mFrz (mLc [7] (mRange1 (mRet (.int 61))) (pName 7) (mRet true) (mTup (mCons (mVar 7) (mCons (mRet (.int 0)) (mCons (mRet (.int 0)) (mRet [])))))))) (mRet [])))))))
  (mSeq (mSet 4 (mLst (mCons (mRet .none) (mCons (mTup (mCons (mRet (.int 0)) (mCons (mRet (.int 3)) (mCons (mRet (.int 0)) (mCons (mRet (.int 3)) (mRet [])))))) (mCons (mTup (mCons (mRet (.int 0)) (mCons (mRet (.int 3)) (mCons (mRet (.int 3)) (mRet []))))) (mCons (mFrz (mLst (mCons (mRet (.int 0)) (mCons (mRet (.int 3)) (mCons (mRet (.int 3)) (mCons (mRet (.int 0)) (mRet []))))))) (mCons (mTup (mCons (mRet (.int 0)) (mCons (mRet (.int 3)) (mCons (mRet (.int 3)) (mCons (mRet (.int 1001)) (mRet [])))))) (mCons (mTup (mCons (mUn opNeg (mRet (.int 1001))) (mCons (mRet (.int 3)) (mCons (mRet (.int 3)) (mCons (mRet (.int 0)) (mRet [])))))) (mCons (mTup (mCons (mRet (.bool true)) (mCons (mRet (.int 3)) (mCons (mRet (.int 3)) (mCons (mRet (.int 0)) (mRet [])))))) (mCons (mRet (.str "gate")) (mRet [])))))))))))
  (mSeq (mFor (mIter (mVar 3)) (pName 5) bd__law_tracks_0)
  (mSeq (mFor (mIter (mVar 4)) (pName 5) bd__law_tracks_1)
  (mSeq (mFor (mIter (mTup (mCons (mRet .none) (mCons (mTup (mRet [])) (mCons (mTup (mCons (mVar 2) (mRet []))) (mCons (mTup (mCons (mVar 2) (mCons (mOp opIx (mVar 4) (mRet (.int 1))) (mRet [])))) (mCons (mFrz (mLst (mCons (mVar 2) (mCons (mVar 2) (mRet []))))) (mCons (mOp opMulT (mTup (mCons (mVar 2) (mRet []))) (mRet (.int 9))) (mRet []))))))))) (pName 5) bd__law_tracks_2)
  (mSeq (mFor (mIter (mTup (mCons (mRet .none) (mCons (mUn opNeg (mRet (.int 1))) (mCons (mRet (.int 100001)) (mCons (mRet (.bool true)) (mCons (mRet (.str "5")) (mRet [])))))))) (pName 5) bd__law_tracks_3)
  (mSeq (mSet 6 (mFz (mOp opAdd (mUn opTuple (mFrz (mLc [7] (mRange1 (mRet (.int 59))) (pName 7) (mRet true) (mTup (mCons (mVar 7) (mCons (mUn opNeg (mRet (.int 1000))) (mCons (mRet (.int 1000)) (mRet [])))))))) (mTup (mCons (mTup (mCons (mRet (.int 100000)) (mCons (mRet (.int 1000)) (mCons (mUn opNeg (mRet (.int 1000))) (mRet []))))) (mRet []))))))
  (mReturn (mAndV (mOp opIs (mCall g_is_track (mCons (mVar 6) (mRet []))) (mRet (.bool true))) (mAndV (mOp opIs (mCall g_is_gate (mCons (mTup (mCons (mUn opNeg (mRet (.int 1000))) (mCons (mRet (.int 1000)) (mCons (mRet (.int 1000)) (mCons (mUn opNeg (mRet (.int 1000))) (mRet [])))))) (mRet []))) (mRet (.bool true))) (mOp opIs (mCall g_is_course (mCons (mOp opMulT (mTup (mCons (mVar 2) (mRet []))) (mRet (.int 8))) (mRet []))) (mRet (.bool true)))))))))))))))))
def g__law_tracks : List Slot → Town → Rt Town := fnT 1 8 m__law_tracks
theorem ok__law_tracks (B : BB K mg base cls) : DefX P w K mg base "_law_tracks" 7 ["_law_odd"] (spX (CTs K cls) g__law_tracks) :=
  okDT (k := 6) (m := m__law_tracks) B.d__law_tracks sc__law_tracks rfl (fun f cdv A outer s H E hr => by
    have pw : PassesOwn (model P w) (A.deeper (PyProof.Rows.envOfC "_law_tracks" (defScope s__law_tracks) s.heap.objs.size f cdv)) (PyProof.Rows.envOfC "_law_tracks" (defScope s__law_tracks) s.heap.objs.size f cdv) (cxOf (L2.CX P w) P w K mg base N__law_tracks "_law_tracks" (defScope s__law_tracks) f cdv A outer s H E).xe := passes_of (X := cxOf (L2.CX P w) P w K mg base N__law_tracks "_law_tracks" (defScope s__law_tracks) f cdv A outer s H E) rfl
    exact DSs.twoT (cts_any K cls) (fun C hC =>
    have q := Cur.town (X := cxOf (L2.CX P w) P w K mg base N__law_tracks "_law_tracks" (defScope s__law_tracks) f cdv A outer s H E) (W := WofE E) (k := 6) hC (takes_of rfl rfl rfl rfl) hr rfl rfl sc__law_tracks.nd
    (dss_cons (ds_tupset q 2 rfl (pgn_cons 1 q.nd (pgn_cons 2 q.nd pgn_nil)) (das_cons (de_fz (dv_tup (da_cons (dv_tup (da_cons dv_int (da_cons dv_int (da_cons dv_int da_nil)))) (da_cons (dv_tup (da_cons dv_int (da_cons dv_int (da_cons dv_int da_nil)))) da_nil)))) (das_cons (de_fz (dv_tup (da_cons dv_int (da_cons dv_int (da_cons dv_int (da_cons dv_int da_nil)))))) das_nil)))
    (dss_cons (ds_set 3 q (de_lst (da_cons dv_non (da_cons (dv_tup da_nil) (da_cons (dv_sl q (dv_var 1) do_none (do_some dv_int)) (da_cons (dv_tup (da_cons (dv_ix q (dv_var 1) dv_int) (da_cons (dv_tup (da_cons dv_int (da_cons dv_int (da_cons dv_int da_nil)))) da_nil))) (da_cons (dv_frz (de_lst (da_cons (dv_ix q (dv_var 1) dv_int) (da_cons (dv_ix q (dv_var 1) dv_int) da_nil)))) (da_cons (dv_tup (da_cons (dv_ix q (dv_var 1) dv_int) (da_cons (dv_tup (da_cons dv_int (da_cons dv_int (da_cons dv_int da_nil)))) da_nil))) da_nil))))))))
    (dss_cons (ds_expr (dv_extend q 3 (pv 3) (dv_frz (de_lst (da_cons (dv_tup (da_cons (dv_ix q (dv_var 1) dv_int) (da_cons (dv_tup (da_cons dv_int (da_cons dv_int (da_cons (dv_neg dv_int) da_nil)))) da_nil))) da_nil)))))
    (dss_cons (ds_expr (dv_extend q 3 (pv 3) (dv_frz (de_lst (da_cons (dv_tup (da_cons (dv_ix q (dv_var 1) dv_int) (da_cons (dv_tup (da_cons dv_int (da_cons dv_int (da_cons dv_int da_nil)))) da_nil))) (da_cons (dv_tup (da_cons (dv_ix q (dv_var 1) dv_int) (da_cons (dv_tup (da_cons dv_int (da_cons dv_int da_nil))) da_nil))) (da_cons (dv_tup (da_cons (dv_ix q (dv_var 1) dv_int) (da_cons (dv_tup (da_cons dv_int (da_cons dv_bl (da_cons dv_int da_nil)))) da_nil))) (da_cons (dv_tup (da_cons (dv_tup (da_cons (dv_neg dv_int) (da_cons dv_int (da_cons dv_int da_nil)))) (da_cons (dv_ix q (dv_var 1) dv_int) da_nil))) da_nil))))))))
    (dss_cons (ds_expr (dv_extend q 3 (pv 3) (dv_frz (de_lst (da_cons (dv_add q (dv_var 1) (dv_tup (da_cons (dv_tup (da_cons dv_int (da_cons dv_int (da_cons dv_int da_nil)))) da_nil))) (da_cons (dv_tuple q B.n_tuple (dv_frz (de_lc q [7] rfl (by decide) (di_range1 B.n_range dv_int) (blkOk_by (own := [("_law_at", 7)]) (N := N__law_tracks) (sc := defScope s__law_tracks) (by decide +kernel)) (fun _ _ _ _ _ q1 => (dg_name 7 q1)) (fun _ _ _ _ _ q1 => dts_nil) (fun _ _ _ _ _ q1 => (dv_tup (da_cons (dv_var 7) (da_cons dv_int (da_cons dv_int da_nil)))))))) da_nil))))))
    (dss_cons (ds_set 4 q (de_lst (da_cons dv_non (da_cons (dv_tup (da_cons dv_int (da_cons dv_int (da_cons dv_int (da_cons dv_int da_nil))))) (da_cons (dv_tup (da_cons dv_int (da_cons dv_int (da_cons dv_int da_nil)))) (da_cons (dv_frz (de_lst (da_cons dv_int (da_cons dv_int (da_cons dv_int (da_cons dv_int da_nil)))))) (da_cons (dv_tup (da_cons dv_int (da_cons dv_int (da_cons dv_int (da_cons dv_int da_nil))))) (da_cons (dv_tup (da_cons (dv_neg dv_int) (da_cons dv_int (da_cons dv_int (da_cons dv_int da_nil))))) (da_cons (dv_tup (da_cons dv_bl (da_cons dv_int (da_cons dv_int (da_cons dv_int da_nil))))) (da_cons dv_str da_nil))))))))))
    (dss_cons (ds_for q pw (di_seq q (dv_var 3)) (dg_name 5 q) (dss_cons (ds_if (dt_w (dw_or (dt_cmp c_isnot (dv_call q (ok_is_track B) (by decide) (da_cons (dv_var 5) da_nil)) dv_bl) (dw_or1 (dt_cmp (c_ne q).i (dv_callT q hC (ok__law_ask B) (by decide) (das_cons (de_fz dv_int) (das_cons (de_fz (dv_var 5)) (das_cons (de_fz (dv_var 0)) (das_cons (de_fz dv_non) das_nil))))) (dv_tup (da_cons dv_str (da_cons dv_int da_nil))))))) (dss_one (ds_ret dv_bl)) dss_nil)
    (dss_one (ds_if (dt_cmp (c_ne q).i (dv_callT q hC (ok__law_ask B) (by decide) (das_cons (de_fz dv_int) (das_cons (de_fz (dv_var 5)) (das_cons (de_fz (dv_var 0)) (das_cons (de_fz dv_non) das_nil))))) (dv_tup (da_cons dv_str (da_cons dv_int da_nil)))) (dss_one (ds_ret dv_bl)) dss_nil))))
    (dss_cons (ds_for q pw (di_seq q (dv_var 4)) (dg_name 5 q) (dss_cons (ds_if (dt_w (dw_or (dt_cmp c_isnot (dv_call q (ok_is_gate B) (by decide) (da_cons (dv_var 5) da_nil)) dv_bl) (dw_or1 (dt_cmp c_isnot (dv_call q (ok_is_course B) (by decide) (da_cons (dv_tup (da_cons (dv_var 2) (da_cons (dv_var 5) da_nil))) da_nil)) dv_bl)))) (dss_one (ds_ret dv_bl)) dss_nil)
    (dss_one (ds_if (dt_cmp (c_ne q).i (dv_callT q hC (ok__law_ask B) (by decide) (das_cons (de_fz dv_int) (das_cons (de_fz (dv_var 1)) (das_cons (de_fz (dv_var 5)) (das_cons (de_fz dv_non) das_nil))))) (dv_tup (da_cons dv_str (da_cons dv_int da_nil)))) (dss_one (ds_ret dv_bl)) dss_nil))))
    (dss_cons (ds_for q pw (di_seq q (dv_tup (da_cons dv_non (da_cons (dv_tup da_nil) (da_cons (dv_tup (da_cons (dv_var 2) da_nil)) (da_cons (dv_tup (da_cons (dv_var 2) (da_cons (dv_ix q (dv_var 4) dv_int) da_nil))) (da_cons (dv_frz (de_lst (da_cons (dv_var 2) (da_cons (dv_var 2) da_nil)))) (da_cons (dv_mulT q (dv_tup (da_cons (dv_var 2) da_nil)) dv_int) da_nil)))))))) (dg_name 5 q) (dss_one (ds_if (dt_w (dw_or (dt_cmp c_isnot (dv_call q (ok_is_course B) (by decide) (da_cons (dv_var 5) da_nil)) dv_bl) (dw_or1 (dt_cmp (c_ne q).i (dv_callT q hC (ok__law_ask B) (by decide) (das_cons (de_fz dv_int) (das_cons (de_fz (dv_var 1)) (das_cons (de_fz (dv_var 5)) (das_cons (de_fz dv_non) das_nil))))) (dv_tup (da_cons dv_str (da_cons dv_int da_nil))))))) (dss_one (ds_ret dv_bl)) dss_nil)))
    (dss_cons (ds_for q pw (di_seq q (dv_tup (da_cons dv_non (da_cons (dv_neg dv_int) (da_cons dv_int (da_cons dv_bl (da_cons dv_str da_nil))))))) (dg_name 5 q) (dss_one (ds_if (dt_cmp (c_ne q).i (dv_callT q hC (ok__law_ask B) (by decide) (das_cons (de_fz dv_int) (das_cons (de_fz (dv_var 1)) (das_cons (de_fz (dv_tup (da_cons (dv_var 2) (da_cons (dv_var 2) da_nil)))) (das_cons (de_fz (dv_var 5)) das_nil))))) (dv_tup (da_cons dv_str (da_cons dv_int da_nil)))) (dss_one (ds_ret dv_bl)) dss_nil)))
    (dss_cons (ds_set 6 q (de_fz (dv_add q (dv_tuple q B.n_tuple (dv_frz (de_lc q [7] rfl (by decide) (di_range1 B.n_range dv_int) (blkOk_by (own := [("_law_at", 7)]) (N := N__law_tracks) (sc := defScope s__law_tracks) (by decide +kernel)) (fun _ _ _ _ _ q1 => (dg_name 7 q1)) (fun _ _ _ _ _ q1 => dts_nil) (fun _ _ _ _ _ q1 => (dv_tup (da_cons (dv_var 7) (da_cons (dv_neg dv_int) (da_cons dv_int da_nil)))))))) (dv_tup (da_cons (dv_tup (da_cons dv_int (da_cons dv_int (da_cons (dv_neg dv_int) da_nil)))) da_nil)))))
    (dss_one (ds_ret (dv_and (dv_cmp c_is (dv_call q (ok_is_track B) (by decide) (da_cons (dv_var 6) da_nil)) dv_bl) (dv_and (dv_cmp c_is (dv_call q (ok_is_gate B) (by decide) (da_cons (dv_tup (da_cons (dv_neg dv_int) (da_cons dv_int (da_cons dv_int (da_cons (dv_neg dv_int) da_nil))))) da_nil)) dv_bl) (dv_one (dv_cmp c_is (dv_call q (ok_is_course B) (by decide) (da_cons (dv_mulT q (dv_tup (da_cons (dv_var 2) da_nil)) dv_int) da_nil)) dv_bl)))))))))))))))))))
def bd_law_0 : M Town Out :=
  (mIf ((mOr ((mB (mOp opIsNot (mCall g_is_share (mCons (mVar 3) (mRet []))) (mRet (.bool false))))) ((mB (mOp opNe (mCallT g__law_ask (mSCons (mFz (mRet (.int 0))) (mSCons (mFz (mTup (mCons (mTup (mCons (mRet (.int 0)) (mCons (mRet (.int 5)) (mRet [])))) (mCons (mTup (mCons (mRet (.int 9)) (mCons (mRet (.int 7)) (mRet [])))) (mRet []))))) (mSCons (mFz (mVar 3)) (mSCons (mFz (mRet .none)) mSNil))))) (mTup (mCons (mRet (.str "refused")) (mCons (mRet (.int 0)) (mRet []))))))))) (mReturn (mRet (.bool false))) (mRet .nx))
def ml_0 : M Town Out := (mSet 2 (mFz (mCallT g__law_pick (mSCons (mPt 0) (mSCons (mPt 1) (mSCons (mFz (mFrz (mLst (mCons (mRet .none) (mCons (mTup (mCons (mRet (.int 2)) (mCons (mRet (.int 4)) (mRet [])))) (mCons (mTup (mCons (mRet (.int 1)) (mCons (mRet (.int 0)) (mRet [])))) (mCons (mTup (mCons (mRet (.int 1)) (mCons (mUn opNeg (mRet (.int 2))) (mRet [])))) (mCons (mRet (.int 5)) (mCons (mTup (mCons (mRet (.bool true)) (mCons (mRet (.int 1)) (mRet [])))) (mCons (mFrz (mLst (mCons (mRet (.int 1)) (mCons (mRet (.int 2)) (mRet []))))) (mCons (mRet (.str "1")) (mRet [])))))))))))) mSNil))))))
def ml_1 : M Town Out := (mFor (mIter (mTup (mCons (mRet .none) (mCons (mTup (mCons (mRet (.int 2)) (mCons (mRet (.int 4)) (mRet [])))) (mCons (mTup (mCons (mRet (.int 1)) (mCons (mRet (.int 0)) (mRet [])))) (mCons (mTup (mCons (mRet (.int 1)) (mCons (mUn opNeg (mRet (.int 2))) (mRet [])))) (mCons (mRet (.int 5)) (mCons (mTup (mCons (mRet (.bool true)) (mCons (mRet (.int 1)) (mRet [])))) (mCons (mFrz (mLst (mCons (mRet (.int 1)) (mCons (mRet (.int 2)) (mRet []))))) (mCons (mRet (.str "1")) (mRet []))))))))))) (pName 3) bd_law_0)
def ml_2 : M Town Out := (mReturn (mAndV (mOp opEq (mCallT g__law_ask (mSCons (mFz (mRet (.int 0))) (mSCons (mFz (mTup (mCons (mTup (mCons (mRet (.int 0)) (mCons (mRet (.int 5)) (mRet [])))) (mCons (mTup (mCons (mRet (.int 9)) (mCons (mRet (.int 7)) (mRet [])))) (mRet []))))) (mSCons (mFz (mTup (mCons (mRet (.int 3)) (mCons (mRet (.int 1)) (mRet []))))) (mSCons (mFz (mRet .none)) mSNil))))) (mTup (mCons (mRet (.int 17)) (mCons (mRet (.int 3)) (mRet []))))) (mAndV (mCallT g__law_tides (mSCons (mFz (mVar 2)) mSNil)) (mCallT g__law_tracks (mSCons (mFz (mVar 2)) mSNil)))))
def m_law : M Town Out :=
  (mSeq ml_0 (mSeq ml_1 ml_2))
theorem ok_law {f : Addr} {fd : FuncData} (B : BB K mg base cls) (F : Fun K "law" "law" s_law f fd) (hm : ∀ ns : List Int, ns.length ≤ 63 → ∃ s', m_law ⟨.pt 0 :: .pt 1 :: List.replicate 2 .un, ⟨ns, 0, 0⟩⟩ = .ok (.ret (.bool true)) s') : FnOk P w K mg base (L2.CX P w) 8 f fd ["_law_script"] (spLawT K (tabs cls)) := by
  refine okLaw (cls := cls) (k := 7) (m := m_law) F sc_law rfl (by decide) (fun cdv A outer s H E hr => ?_) hm
  have pw : PassesOwn (model P w) (A.deeper (PyProof.Rows.envOfC "law" (defScope s_law) s.heap.objs.size f cdv)) (PyProof.Rows.envOfC "law" (defScope s_law) s.heap.objs.size f cdv) (cxOf (L2.CX P w) P w K mg base N_law "law" (defScope s_law) f cdv A outer s H E).xe := passes_of (X := cxOf (L2.CX P w) P w K mg base N_law "law" (defScope s_law) f cdv A outer s H E) rfl
  have h1 : PS (cxOf (L2.CX P w) P w K mg base N_law "law" (defScope s_law) f cdv A outer s H E) ((defBody s_law).headD (.Pass ⟨0, 0, 0, 0⟩)) (tAsg (tLst (tCons (tC (.int 0)) (tCons (tC (.int 0)) tNil))) (gName 1)) := ps_set (i := 1) sc_law.nd rfl (by first | exact Or.inl rfl | exact Or.inr rfl) (pe_lst (pa_cons pe_int (pa_cons pe_int pa_nil)))
  have h2 := DSs.twoT (X := cxOf (L2.CX P w) P w K mg base N_law "law" (defScope s_law) f cdv A outer s H E) (W := WofE E) (st := (defBody s_law).tail) (m := m_law) (cts_any K cls) (fun C hC =>
    have q := Cur.town (X := cxOf (L2.CX P w) P w K mg base N_law "law" (defScope s_law) f cdv A outer s H E) (W := WofE E) (k := 7) hC (takes_of rfl rfl rfl rfl) hr rfl rfl sc_law.nd
    (dss_cons (ds_set 2 q (de_fz (dv_callT q hC (ok__law_pick B) (by decide) (das_cons (de_pt 0) (das_cons (de_pt 1) (das_cons (de_fz (dv_frz (de_lst (da_cons dv_non (da_cons (dv_tup (da_cons dv_int (da_cons dv_int da_nil))) (da_cons (dv_tup (da_cons dv_int (da_cons dv_int da_nil))) (da_cons (dv_tup (da_cons dv_int (da_cons (dv_neg dv_int) da_nil))) (da_cons dv_int (da_cons (dv_tup (da_cons dv_bl (da_cons dv_int da_nil))) (da_cons (dv_frz (de_lst (da_cons dv_int (da_cons dv_int da_nil)))) (da_cons dv_str da_nil))))))))))) das_nil))))))
    (dss_cons (ds_for q pw (di_seq q (dv_tup (da_cons dv_non (da_cons (dv_tup (da_cons dv_int (da_cons dv_int da_nil))) (da_cons (dv_tup (da_cons dv_int (da_cons dv_int da_nil))) (da_cons (dv_tup (da_cons dv_int (da_cons (dv_neg dv_int) da_nil))) (da_cons dv_int (da_cons (dv_tup (da_cons dv_bl (da_cons dv_int da_nil))) (da_cons (dv_frz (de_lst (da_cons dv_int (da_cons dv_int da_nil)))) (da_cons dv_str da_nil)))))))))) (dg_name 3 q) (dss_one (ds_if (dt_w (dw_or (dt_cmp c_isnot (dv_call q (ok_is_share B) (by decide) (da_cons (dv_var 3) da_nil)) dv_bl) (dw_or1 (dt_cmp (c_ne q).i (dv_callT q hC (ok__law_ask B) (by decide) (das_cons (de_fz dv_int) (das_cons (de_fz (dv_tup (da_cons (dv_tup (da_cons dv_int (da_cons dv_int da_nil))) (da_cons (dv_tup (da_cons dv_int (da_cons dv_int da_nil))) da_nil)))) (das_cons (de_fz (dv_var 3)) (das_cons (de_fz dv_non) das_nil))))) (dv_tup (da_cons dv_str (da_cons dv_int da_nil))))))) (dss_one (ds_ret dv_bl)) dss_nil)))
    (dss_one (ds_ret (dv_and (dv_cmp (c_eq q).i (dv_callT q hC (ok__law_ask B) (by decide) (das_cons (de_fz dv_int) (das_cons (de_fz (dv_tup (da_cons (dv_tup (da_cons dv_int (da_cons dv_int da_nil))) (da_cons (dv_tup (da_cons dv_int (da_cons dv_int da_nil))) da_nil)))) (das_cons (de_fz (dv_tup (da_cons dv_int (da_cons dv_int da_nil)))) (das_cons (de_fz dv_non) das_nil))))) (dv_tup (da_cons dv_int (da_cons dv_int da_nil)))) (dv_and (dv_callT q hC (ok__law_tides B) (by decide) (das_cons (de_fz (dv_var 2)) das_nil)) (dv_one (dv_callT q hC (ok__law_tracks B) (by decide) (das_cons (de_fz (dv_var 2)) das_nil))))))))))
  obtain ⟨t, h3, h4⟩ := h2
  exact ⟨t, pss_cons h1 h3, h4⟩
end
end Pm

set_option Elab.async false
set_option linter.all false
set_option maxRecDepth 100000
set_option maxHeartbeats 4000000
namespace Pm
open PySem L2 RZ
theorem drawL {t : Town} {n : Int} (h0 : 0 < n) (h1 : n < 1000000) : ∃ d t', g__law_draw [.pt 0, .pt 1, .fz (.int n)] t = .ok (.int d) t' ∧ 0 ≤ d ∧ d < n := drawT h0 h1
theorem p_pick {t : Town} {xs : List D} (h0 : 0 < xs.length) (h1 : xs.length < 1000) : ∃ d t', g__law_pick [.pt 0, .pt 1, .fz (.list xs)] t = .ok d t' ∧ d ∈ xs := by
  obtain ⟨k, t', e, l, u⟩ := drawL (t := t) (n := xs.length) (by omega) (by omega)
  obtain ⟨d, e2, m⟩ := atI_ok (xs := xs) l u
  refine ⟨d, t', ?_, m⟩
  unfold g__law_pick m__law_pick
  have e3 : opIx (.list xs) (.int k) = some d := e2
  simp only [fB_ok, fB_ex, e_bind, e_ret, lR_some, e_lift, fOp2_ok, fOp2_ex, fOp1_ok, fOp1_ex, e_op, fUn_ok, fUn_ex, e_un, fCo2_ok, fCo2_ex, fCo1_ok, fCo1_ex, e_cons, fAsB_ok, fAsB_ex, e_B, fIf_t, fIf_f, fIf_ex, e_if, fNot_ok, fNot_ex, e_not, fOfB_ok, fOfB_ex, e_ofB, e_and, e_or, fAndV_t, fAndV_f, fAndV_ex, e_andV, fOrV_t, fOrV_f, fOrV_ex, e_orV, fVar_fz, fVar_ol, fVar_od, e_var, fPk_fz, fPk_ol, fPk_od, e_slotD, fOpP3_ok, fOpP3_ex, fOpP2_ok, fOpP2_ex, fOpP1_ok, fOpP1_ex, e_opP, e_unP, fLiB_s, fCh2_ok, fCh2_ex, fCh1_ok, fCh1_ex, e_chain, fTup_ex, fLst_ex, fTup_0, fLst_0, fTup_1, fLst_1, fTup_2, fLst_2, fTup_3, fLst_3, fTup_4, fLst_4, fTup_5, fLst_5, fTup_6, fLst_6, fTup_7, fLst_7, fTup_8, fLst_8, fTup_9, fLst_9, fTup_10, fLst_10, fTup_11, fLst_11, fTup_12, fLst_12, e_tup, e_lst, fFrz_fz, fFrz_ol, fFrz_od, fFrz_ex, e_frz, fFz_ok, fFz_ex, e_fz, cP_ok, cP_ex, fCall_ok, fCall_ex, e_call, cT_ok, cT_ex, fCallT_0, fCallT_1, fCallT_2, fCallT_3, fCallT_4, fCallT_5, fCallT_6, fCallT_7, fCallT_ex, e_callT, fPt_pt, e_pt, fSome_ok, e_some, fSl3_ok, fSl3_ex, fSl2_ok, fSl2_ex, fSl1_ok, fSl1_ex, e_sl, fIsi_ok, fIsi_ex, e_isi, fTru_b, fTru_i, fTru_l, fTru_n, fTru_ex, e_truth, e_sNil, fSc2_ok, fSc2_ex, fSc1_ok, fSc1_ex, e_sCons, fBlk_ok, e_blk, fSeq_nx, fSeq_bk, fSeq_ct, fSeq_rt, fSeq_ex, e_seq, fRet_ok, fRet_ex, e_return, fExp_ok, fExp_ex, e_expr, fSet_ok, fSet_ex, e_set, fNx_ok, fSetG_ok, fSetG_ex, e_setG, fSets_2, fSets_3, fSets_4, fSets_5, fSets_6, fSets_7, fSets_ex, e_sets, fFor_ok, fFor_ex, e_for, fLoop_nx, fLoop_ct, fLoop_bk, fLoop_rt, fLoop_ex, e_forN, e_forC, fAug2_ok, fAug2_ex, fAug1_ok, fAug1_ex, e_aug, fApp1_ok, fApp1_ex, fApp0_ol, e_append, fExt1_ok, fExt1_ex, fExt0_ol, e_extend, fIter_l, fIter_t, fIter_s, fIter_ex, e_iter, fZip2_l, fZip2_t, fZip1_ok, e_zip, fEnum_l, e_enum, e_rng1, fRng21_ok, e_rng2, e_pName, e_pNil, fPc_ok, fPc_ex, e_pCons, e_pTup2, e_pTupL2, e_pTup3, e_pTupL3, e_pTup4, e_pTupL4, e_pTup5, e_pTupL5, e_raise, fGet3_ok, fGet2_ok, fGet1_ok, e_get, fDp1_ok, fDp0_od, fDp_ok, fDp_ex, e_dput, fLc2_ok, fLc1_ex, e_lc, fLcL_s, fLcL_n, fTo_ok, fTi_t, fTi_f, fTp_ok, e_turn, gt_0, st_0, gD_0, gt_1, st_1, gD_1, gt_2, st_2, gD_2, gt_3, st_3, gD_3, gt_4, st_4, gD_4, gt_5, st_5, gD_5, gt_6, st_6, gD_6, gt_7, st_7, gD_7, gt_8, st_8, gD_8, gt_9, st_9, gD_9, gt_10, st_10, gD_10, gt_11, st_11, gD_11, gt_12, st_12, gD_12, gt_13, st_13, gD_13, gt_14, st_14, gD_14, gt_15, st_15, gD_15, gt_16, st_16, gD_16, gt_17, st_17, gD_17, gt_18, st_18, gD_18, gt_19, st_19, gD_19, gt_20, st_20, gD_20, gt_21, st_21, gD_21, gt_22, st_22, gD_22, gt_23, st_23, gD_23, gt_24, st_24, gD_24, gt_25, st_25, gD_25, gt_26, st_26, gD_26, gt_27, st_27, gD_27, gt_28, st_28, gD_28, gt_29, st_29, gD_29, ixT_0, ixL_0, ixT_1, ixL_1, ixT_2, ixL_2, ixT_3, ixL_3, ixT_4, ixL_4, ixT_5, ixL_5, ixT_6, ixL_6, ixT_7, ixL_7, ixT_8, ixL_8, ixT_9, ixL_9, ev_add, ev_addI, ev_sub, ev_mul, ev_div, ev_mod, ev_neg, ev_lt, ev_le, ev_gt, ev_ge, ev_lenT, ev_lenL, ev_alln, ev_allc, ev_anyn, ev_anyc, ev_sumn, ev_sumc, ev_tupL, ev_tupT, dB_n, okW_n, okW_c, okS_f, okS_u, wipe_n, wipe_c, rest_n, rest_c, is_int_none, is_int_bool, is_int_int, is_int_str, is_int_tuple, is_int_list, is_int_dict, is_bool_none, is_bool_bool, is_bool_int, is_bool_str, is_bool_tuple, is_bool_list, is_bool_dict, is_str_none, is_str_bool, is_str_int, is_str_str, is_str_tuple, is_str_list, is_str_dict, is_tuple_none, is_tuple_bool, is_tuple_int, is_tuple_str, is_tuple_tuple, is_tuple_list, is_tuple_dict, is_list_none, is_list_bool, is_list_int, is_list_str, is_list_tuple, is_list_list, is_list_dict, is_dict_none, is_dict_bool, is_dict_int, is_dict_str, is_dict_tuple, is_dict_list, is_dict_dict, e_out, e_outN, e_outE, e_outT, e_outTN, e_outTE, e_listOf, fListOf_t, fListOf_l, fListOf_d, e_keys, fKeys_d, e_dictOf, fDictOf_d, e_setNX, e_enumA, fEnumA_l, fEnumA_t, e_callK, e_callD, fCk1_ok, fCk2_ok, fLc1_of, e_lcN, e_lcC, e_bmP, fBm0_l, fBm1_ok, fBm2_ok, e_sortK, e_callTK, fCTK1_ok, fCTK2_of, cRt_ok, cRt_ex, e_openL, fOpL_of, e_appO, fAppO_of, e_remove, fRem1_of, e_zipM, fZipM1_ok, fZipM2_ok, fnP_run, fnT_run, env0, argOk, opIs, opIsNot, List.length_cons, List.length_nil, List.map_cons, List.map_nil, List.replicate, List.cons_append, List.nil_append, List.append_nil, List.all_cons, List.all_nil, if_true, if_false, opEq_ii, opNe_ii, opEq_bb, opNe_bb, Int.cast_ofNat_Int, Option.map_some, Option.map_none, Option.isSome_some, Option.isSome_none, id_eq, eq_self, Nat.reduceAdd, Nat.reduceLeDiff, Nat.reduceLT, Nat.reduceSub, Nat.reduceEqDiff, Int.reduceNeg, Int.reduceSub, Int.reduceAdd, Int.reduceEq, Int.reduceLT, Int.reduceLE, Int.reduceMul, Bool.and_true, Bool.true_and, Bool.not_true, Bool.not_false, Bool.false_and, Bool.and_false, true_and, and_true, and_self, reduceIte, Bool.false_eq_true, decide_true, decide_false, dBools, e, e3]
abbrev odd0 : List D := [.none, .tuple [.int 2, .int 4], .tuple [.int 1, .int 0], .tuple [.int 1, .int (-2)], .int 5, .tuple [.bool true, .int 1], .list [.int 1, .int 2], .str "1"]
theorem rest_all (t : Town) : (odd0.all fun d => isTrueR ((mSeq ml_1 ml_2) ⟨[.pt 0, .pt 1, .fz d, .un], t⟩)) = true := by kernel_rfl
theorem k04_0 {f : D} {t t' : Town} (e1 : g__law_pick [.pt 0, .pt 1, .fz (.list odd0)] t = .ok f t') (R : M Town Out) : mSeq ml_0 R (⟨[.pt 0, .pt 1, .un, .un], t⟩ : S Town) = R ⟨[.pt 0, .pt 1, .fz f, .un], t'⟩ := by
  unfold ml_0
  simp only [fB_ok, fB_ex, e_bind, e_ret, lR_some, e_lift, fOp2_ok, fOp2_ex, fOp1_ok, fOp1_ex, e_op, fUn_ok, fUn_ex, e_un, fCo2_ok, fCo2_ex, fCo1_ok, fCo1_ex, e_cons, fAsB_ok, fAsB_ex, e_B, fIf_t, fIf_f, fIf_ex, e_if, fNot_ok, fNot_ex, e_not, fOfB_ok, fOfB_ex, e_ofB, e_and, e_or, fAndV_t, fAndV_f, fAndV_ex, e_andV, fOrV_t, fOrV_f, fOrV_ex, e_orV, fVar_fz, fVar_ol, fVar_od, e_var, fPk_fz, fPk_ol, fPk_od, e_slotD, fOpP3_ok, fOpP3_ex, fOpP2_ok, fOpP2_ex, fOpP1_ok, fOpP1_ex, e_opP, e_unP, fLiB_s, fCh2_ok, fCh2_ex, fCh1_ok, fCh1_ex, e_chain, fTup_ex, fLst_ex, fTup_0, fLst_0, fTup_1, fLst_1, fTup_2, fLst_2, fTup_3, fLst_3, fTup_4, fLst_4, fTup_5, fLst_5, fTup_6, fLst_6, fTup_7, fLst_7, fTup_8, fLst_8, fTup_9, fLst_9, fTup_10, fLst_10, fTup_11, fLst_11, fTup_12, fLst_12, e_tup, e_lst, fFrz_fz, fFrz_ol, fFrz_od, fFrz_ex, e_frz, fFz_ok, fFz_ex, e_fz, cP_ok, cP_ex, fCall_ok, fCall_ex, e_call, cT_ok, cT_ex, fCallT_0, fCallT_1, fCallT_2, fCallT_3, fCallT_4, fCallT_5, fCallT_6, fCallT_7, fCallT_ex, e_callT, fPt_pt, e_pt, fSome_ok, e_some, fSl3_ok, fSl3_ex, fSl2_ok, fSl2_ex, fSl1_ok, fSl1_ex, e_sl, fIsi_ok, fIsi_ex, e_isi, fTru_b, fTru_i, fTru_l, fTru_n, fTru_ex, e_truth, e_sNil, fSc2_ok, fSc2_ex, fSc1_ok, fSc1_ex, e_sCons, fBlk_ok, e_blk, fSeq_nx, fSeq_bk, fSeq_ct, fSeq_rt, fSeq_ex, e_seq, fRet_ok, fRet_ex, e_return, fExp_ok, fExp_ex, e_expr, fSet_ok, fSet_ex, e_set, fNx_ok, fSetG_ok, fSetG_ex, e_setG, fSets_2, fSets_3, fSets_4, fSets_5, fSets_6, fSets_7, fSets_ex, e_sets, fFor_ok, fFor_ex, e_for, fLoop_nx, fLoop_ct, fLoop_bk, fLoop_rt, fLoop_ex, e_forN, e_forC, fAug2_ok, fAug2_ex, fAug1_ok, fAug1_ex, e_aug, fApp1_ok, fApp1_ex, fApp0_ol, e_append, fExt1_ok, fExt1_ex, fExt0_ol, e_extend, fIter_l, fIter_t, fIter_s, fIter_ex, e_iter, fZip2_l, fZip2_t, fZip1_ok, e_zip, fEnum_l, e_enum, e_rng1, fRng21_ok, e_rng2, e_pName, e_pNil, fPc_ok, fPc_ex, e_pCons, e_pTup2, e_pTupL2, e_pTup3, e_pTupL3, e_pTup4, e_pTupL4, e_pTup5, e_pTupL5, e_raise, fGet3_ok, fGet2_ok, fGet1_ok, e_get, fDp1_ok, fDp0_od, fDp_ok, fDp_ex, e_dput, fLc2_ok, fLc1_ex, e_lc, fLcL_s, fLcL_n, fTo_ok, fTi_t, fTi_f, fTp_ok, e_turn, gt_0, st_0, gD_0, gt_1, st_1, gD_1, gt_2, st_2, gD_2, gt_3, st_3, gD_3, gt_4, st_4, gD_4, gt_5, st_5, gD_5, gt_6, st_6, gD_6, gt_7, st_7, gD_7, gt_8, st_8, gD_8, gt_9, st_9, gD_9, gt_10, st_10, gD_10, gt_11, st_11, gD_11, gt_12, st_12, gD_12, gt_13, st_13, gD_13, gt_14, st_14, gD_14, gt_15, st_15, gD_15, gt_16, st_16, gD_16, gt_17, st_17, gD_17, gt_18, st_18, gD_18, gt_19, st_19, gD_19, gt_20, st_20, gD_20, gt_21, st_21, gD_21, gt_22, st_22, gD_22, gt_23, st_23, gD_23, gt_24, st_24, gD_24, gt_25, st_25, gD_25, gt_26, st_26, gD_26, gt_27, st_27, gD_27, gt_28, st_28, gD_28, gt_29, st_29, gD_29, ixT_0, ixL_0, ixT_1, ixL_1, ixT_2, ixL_2, ixT_3, ixL_3, ixT_4, ixL_4, ixT_5, ixL_5, ixT_6, ixL_6, ixT_7, ixL_7, ixT_8, ixL_8, ixT_9, ixL_9, ev_add, ev_addI, ev_sub, ev_mul, ev_div, ev_mod, ev_neg, ev_lt, ev_le, ev_gt, ev_ge, ev_lenT, ev_lenL, ev_alln, ev_allc, ev_anyn, ev_anyc, ev_sumn, ev_sumc, ev_tupL, ev_tupT, dB_n, okW_n, okW_c, okS_f, okS_u, wipe_n, wipe_c, rest_n, rest_c, is_int_none, is_int_bool, is_int_int, is_int_str, is_int_tuple, is_int_list, is_int_dict, is_bool_none, is_bool_bool, is_bool_int, is_bool_str, is_bool_tuple, is_bool_list, is_bool_dict, is_str_none, is_str_bool, is_str_int, is_str_str, is_str_tuple, is_str_list, is_str_dict, is_tuple_none, is_tuple_bool, is_tuple_int, is_tuple_str, is_tuple_tuple, is_tuple_list, is_tuple_dict, is_list_none, is_list_bool, is_list_int, is_list_str, is_list_tuple, is_list_list, is_list_dict, is_dict_none, is_dict_bool, is_dict_int, is_dict_str, is_dict_tuple, is_dict_list, is_dict_dict, e_out, e_outN, e_outE, e_outT, e_outTN, e_outTE, e_listOf, fListOf_t, fListOf_l, fListOf_d, e_keys, fKeys_d, e_dictOf, fDictOf_d, e_setNX, e_enumA, fEnumA_l, fEnumA_t, e_callK, e_callD, fCk1_ok, fCk2_ok, fLc1_of, e_lcN, e_lcC, e_bmP, fBm0_l, fBm1_ok, fBm2_ok, e_sortK, e_callTK, fCTK1_ok, fCTK2_of, cRt_ok, cRt_ex, e_openL, fOpL_of, e_appO, fAppO_of, e_remove, fRem1_of, e_zipM, fZipM1_ok, fZipM2_ok, fnP_run, fnT_run, env0, argOk, opIs, opIsNot, List.length_cons, List.length_nil, List.map_cons, List.map_nil, List.replicate, List.cons_append, List.nil_append, List.append_nil, List.all_cons, List.all_nil, if_true, if_false, opEq_ii, opNe_ii, opEq_bb, opNe_bb, Int.cast_ofNat_Int, Option.map_some, Option.map_none, Option.isSome_some, Option.isSome_none, id_eq, eq_self, Nat.reduceAdd, Nat.reduceLeDiff, Nat.reduceLT, Nat.reduceSub, Nat.reduceEqDiff, Int.reduceNeg, Int.reduceSub, Int.reduceAdd, Int.reduceEq, Int.reduceLT, Int.reduceLE, Int.reduceMul, Bool.and_true, Bool.true_and, Bool.not_true, Bool.not_false, Bool.false_and, Bool.and_false, true_and, and_true, and_self, reduceIte, Bool.false_eq_true, decide_true, decide_false, dBools, e1]
theorem law_true (ns : List Int) (hns : ns.length ≤ 63) : ∃ s', m_law ⟨.pt 0 :: .pt 1 :: List.replicate 2 .un, ⟨ns, 0, 0⟩⟩ = .ok (.ret (.bool true)) s' := by
  obtain ⟨f, t1, e1, hf⟩ := p_pick (t := ⟨ns, 0, 0⟩) (xs := odd0) (by decide) (by decide)
  have k := rest_all t1
  rw [List.all_eq_true] at k
  obtain ⟨s', hs⟩ := trueR (k f hf)
  exact ⟨s', (k04_0 e1 (mSeq ml_1 ml_2)).trans hs⟩
end Pm

set_option Elab.async false
set_option linter.all false
set_option maxRecDepth 100000
set_option maxHeartbeats 4000000
namespace Pm
open PySem PySem.Spec PyProof.Rows L2 LamX RZ
theorem all_mk {l : PySem.W.OpenLaw} {w : World} {K : PySem.W.Frag} {h : Heap} {mg : Str → Option Value} {fa : Addr} (X : K.In h) (G : h.Ns mainGlobals mg) (hfa : mg "law" = some (.ref fa))
    {c0 : Addr}
    {c1 : Addr}
    {c2 : Addr}
    {c3 : Addr}
    {c4 : Addr}
    {c5 : Addr}
    {c6 : Addr}
    {c7 : Addr}
    {c8 : Addr}
    {c9 : Addr}
    {c10 : Addr}
    {c11 : Addr}
    {c12 : Addr}
    {c13 : Addr}
    {c14 : Addr}
    {c15 : Addr}
    {c16 : Addr}
    {c17 : Addr}
    {c18 : Addr}
    {c19 : Addr}
    {c20 : Addr}
    {c21 : Addr}
    {g0 : Tok}
    {g1 : Tok}
    {g2 : Tok}
    {f0 : Addr} {od0 an0 : Option Addr} {sl0 : Array (Option Value)} {oc0 kV0 dc0 pm0 cd0 ct0 : Value}
    {f1 : Addr} {od1 an1 : Option Addr} {sl1 : Array (Option Value)} {oc1 kV1 dc1 pm1 cd1 ct1 : Value}
    {f2 : Addr} {od2 an2 : Option Addr} {sl2 : Array (Option Value)} {oc2 kV2 dc2 pm2 cd2 ct2 : Value}
    {f3 : Addr} {od3 an3 : Option Addr} {sl3 : Array (Option Value)} {oc3 kV3 dc3 pm3 cd3 ct3 : Value}
    {f4 : Addr} {od4 an4 : Option Addr} {sl4 : Array (Option Value)} {oc4 kV4 dc4 pm4 cd4 ct4 : Value}
    {f5 : Addr} {od5 an5 : Option Addr} {sl5 : Array (Option Value)} {oc5 kV5 dc5 pm5 cd5 ct5 : Value}
    {f6 : Addr} {od6 an6 : Option Addr} {sl6 : Array (Option Value)} {oc6 kV6 dc6 pm6 cd6 ct6 : Value}
    {f7 : Addr} {od7 an7 : Option Addr} {sl7 : Array (Option Value)} {oc7 kV7 dc7 pm7 cd7 ct7 : Value}
    {f8 : Addr} {od8 an8 : Option Addr} {sl8 : Array (Option Value)} {oc8 kV8 dc8 pm8 cd8 ct8 : Value}
    {f9 : Addr} {od9 an9 : Option Addr} {sl9 : Array (Option Value)} {oc9 kV9 dc9 pm9 cd9 ct9 : Value}
    {f10 : Addr} {od10 an10 : Option Addr} {sl10 : Array (Option Value)} {oc10 kV10 dc10 pm10 cd10 ct10 : Value}
    {f11 : Addr} {od11 an11 : Option Addr} {sl11 : Array (Option Value)} {oc11 kV11 dc11 pm11 ct11 : Value}
    {lc : Addr} {lp : Addr}
    {f12 : Addr} {od12 an12 : Option Addr} {sl12 : Array (Option Value)} {oc12 kV12 dc12 pm12 cd12 ct12 : Value}
    {f13 : Addr} {od13 an13 : Option Addr} {sl13 : Array (Option Value)} {oc13 kV13 dc13 pm13 cd13 ct13 : Value}
    {f14 : Addr} {od14 an14 : Option Addr} {sl14 : Array (Option Value)} {oc14 kV14 dc14 pm14 cd14 ct14 : Value}
    {f15 : Addr} {od15 an15 : Option Addr} {sl15 : Array (Option Value)} {oc15 kV15 dc15 pm15 cd15 ct15 : Value}
    {f16 : Addr} {od16 an16 : Option Addr} {sl16 : Array (Option Value)} {oc16 kV16 dc16 pm16 cd16 ct16 : Value}
    {f17 : Addr} {od17 an17 : Option Addr} {sl17 : Array (Option Value)} {oc17 kV17 dc17 pm17 cd17 ct17 : Value}
    {f18 : Addr} {od18 an18 : Option Addr} {sl18 : Array (Option Value)} {oc18 kV18 dc18 pm18 cd18 ct18 : Value}
    {f19 : Addr} {od19 an19 : Option Addr} {sl19 : Array (Option Value)} {oc19 kV19 dc19 pm19 cd19 ct19 : Value}
    {f20 : Addr} {od20 an20 : Option Addr} {sl20 : Array (Option Value)} {oc20 kV20 dc20 pm20 cd20 ct20 : Value}
    {f21 : Addr} {od21 an21 : Option Addr} {sl21 : Array (Option Value)} {oc21 kV21 dc21 pm21 cd21 ct21 : Value}
    {f22 : Addr} {od22 an22 : Option Addr} {sl22 : Array (Option Value)} {oc22 kV22 dc22 pm22 cd22 ct22 : Value}
    {f23 : Addr} {od23 an23 : Option Addr} {sl23 : Array (Option Value)} {oc23 kV23 dc23 pm23 cd23 ct23 : Value}
    {f24 : Addr} {od24 an24 : Option Addr} {sl24 : Array (Option Value)} {oc24 kV24 dc24 pm24 cd24 ct24 : Value}
    {f25 : Addr} {od25 an25 : Option Addr} {sl25 : Array (Option Value)} {oc25 kV25 dc25 pm25 cd25 ct25 : Value}
    {f26 : Addr} {od26 an26 : Option Addr} {sl26 : Array (Option Value)} {oc26 kV26 dc26 pm26 cd26 ct26 : Value}
    {f27 : Addr} {od27 an27 : Option Addr} {sl27 : Array (Option Value)} {oc27 kV27 dc27 pm27 cd27 ct27 : Value}
    {f28 : Addr} {od28 an28 : Option Addr} {sl28 : Array (Option Value)} {oc28 kV28 dc28 pm28 cd28 ct28 : Value}
    {f29 : Addr} {od29 an29 : Option Addr} {sl29 : Array (Option Value)} {oc29 kV29 dc29 pm29 cd29 ct29 : Value}
    (ea0 : PySem.W.nsIn K mainGlobals "RaceError" = some (some (.ref c0)))
    (ex0 : PySem.W.excIn K c0 [.type "ValueError", .type "Exception", .type "BaseException", .type "object"] "ValueError.__new__" = true)
    (ek0 : PySem.W.keepIn K (.ref c0) = true)
    (es0 : PySem.W.subIn K (.ref c0) (.type "BaseException") = some true)
    (et0 : PySem.W.typeIn K (.ref c0) = some (.type "type"))
    (ea1 : PySem.W.nsIn K mainGlobals "NoShare" = some (some (.ref c1)))
    (ex1 : PySem.W.excIn K c1 [.type "ValueError", .type "Exception", .type "BaseException", .type "object"] "ValueError.__new__" = true)
    (ek1 : PySem.W.keepIn K (.ref c1) = true)
    (es1 : PySem.W.subIn K (.ref c1) (.type "BaseException") = some true)
    (et1 : PySem.W.typeIn K (.ref c1) = some (.type "type"))
    (ea2 : PySem.W.nsIn K mainGlobals "NoTide" = some (some (.ref c2)))
    (ex2 : PySem.W.excIn K c2 [.type "ValueError", .type "Exception", .type "BaseException", .type "object"] "ValueError.__new__" = true)
    (ek2 : PySem.W.keepIn K (.ref c2) = true)
    (es2 : PySem.W.subIn K (.ref c2) (.type "BaseException") = some true)
    (et2 : PySem.W.typeIn K (.ref c2) = some (.type "type"))
    (ea3 : PySem.W.nsIn K mainGlobals "NoNumber" = some (some (.ref c3)))
    (ex3 : PySem.W.excIn K c3 [.type "ValueError", .type "Exception", .type "BaseException", .type "object"] "ValueError.__new__" = true)
    (ek3 : PySem.W.keepIn K (.ref c3) = true)
    (es3 : PySem.W.subIn K (.ref c3) (.type "BaseException") = some true)
    (et3 : PySem.W.typeIn K (.ref c3) = some (.type "type"))
    (ea4 : PySem.W.nsIn K mainGlobals "NoTrack" = some (some (.ref c4)))
    (ex4 : PySem.W.excIn K c4 [.type "ValueError", .type "Exception", .type "BaseException", .type "object"] "ValueError.__new__" = true)
    (ek4 : PySem.W.keepIn K (.ref c4) = true)
    (es4 : PySem.W.subIn K (.ref c4) (.type "BaseException") = some true)
    (et4 : PySem.W.typeIn K (.ref c4) = some (.type "type"))
    (ea5 : PySem.W.nsIn K mainGlobals "NoGate" = some (some (.ref c5)))
    (ex5 : PySem.W.excIn K c5 [.type "ValueError", .type "Exception", .type "BaseException", .type "object"] "ValueError.__new__" = true)
    (ek5 : PySem.W.keepIn K (.ref c5) = true)
    (es5 : PySem.W.subIn K (.ref c5) (.type "BaseException") = some true)
    (et5 : PySem.W.typeIn K (.ref c5) = some (.type "type"))
    (ea6 : PySem.W.nsIn K mainGlobals "NoCourse" = some (some (.ref c6)))
    (ex6 : PySem.W.excIn K c6 [.type "ValueError", .type "Exception", .type "BaseException", .type "object"] "ValueError.__new__" = true)
    (ek6 : PySem.W.keepIn K (.ref c6) = true)
    (es6 : PySem.W.subIn K (.ref c6) (.type "BaseException") = some true)
    (et6 : PySem.W.typeIn K (.ref c6) = some (.type "type"))
    (ea7 : PySem.W.nsIn K mainGlobals "NoRule" = some (some (.ref c7)))
    (ex7 : PySem.W.excIn K c7 [.type "ValueError", .type "Exception", .type "BaseException", .type "object"] "ValueError.__new__" = true)
    (ek7 : PySem.W.keepIn K (.ref c7) = true)
    (es7 : PySem.W.subIn K (.ref c7) (.type "BaseException") = some true)
    (et7 : PySem.W.typeIn K (.ref c7) = some (.type "type"))
    (ea8 : PySem.W.nsIn K mainGlobals "NoEntries" = some (some (.ref c8)))
    (ex8 : PySem.W.excIn K c8 [.type "ValueError", .type "Exception", .type "BaseException", .type "object"] "ValueError.__new__" = true)
    (ek8 : PySem.W.keepIn K (.ref c8) = true)
    (es8 : PySem.W.subIn K (.ref c8) (.type "BaseException") = some true)
    (et8 : PySem.W.typeIn K (.ref c8) = some (.type "type"))
    (ea9 : PySem.W.nsIn K mainGlobals "NoRace" = some (some (.ref c9)))
    (ex9 : PySem.W.excIn K c9 [.type "ValueError", .type "Exception", .type "BaseException", .type "object"] "ValueError.__new__" = true)
    (ek9 : PySem.W.keepIn K (.ref c9) = true)
    (es9 : PySem.W.subIn K (.ref c9) (.type "BaseException") = some true)
    (et9 : PySem.W.typeIn K (.ref c9) = some (.type "type"))
    (ea10 : PySem.W.nsIn K mainGlobals "NoSeries" = some (some (.ref c10)))
    (ex10 : PySem.W.excIn K c10 [.type "ValueError", .type "Exception", .type "BaseException", .type "object"] "ValueError.__new__" = true)
    (ek10 : PySem.W.keepIn K (.ref c10) = true)
    (es10 : PySem.W.subIn K (.ref c10) (.type "BaseException") = some true)
    (et10 : PySem.W.typeIn K (.ref c10) = some (.type "type"))
    (ea11 : PySem.W.nsIn K mainGlobals "NoDrops" = some (some (.ref c11)))
    (ex11 : PySem.W.excIn K c11 [.type "ValueError", .type "Exception", .type "BaseException", .type "object"] "ValueError.__new__" = true)
    (ek11 : PySem.W.keepIn K (.ref c11) = true)
    (es11 : PySem.W.subIn K (.ref c11) (.type "BaseException") = some true)
    (et11 : PySem.W.typeIn K (.ref c11) = some (.type "type"))
    (ea12 : PySem.W.nsIn K mainGlobals "NoBoat" = some (some (.ref c12)))
    (ex12 : PySem.W.excIn K c12 [.type "ValueError", .type "Exception", .type "BaseException", .type "object"] "ValueError.__new__" = true)
    (ek12 : PySem.W.keepIn K (.ref c12) = true)
    (es12 : PySem.W.subIn K (.ref c12) (.type "BaseException") = some true)
    (et12 : PySem.W.typeIn K (.ref c12) = some (.type "type"))
    (ea13 : PySem.W.nsIn K mainGlobals "NoHull" = some (some (.ref c13)))
    (ex13 : PySem.W.excIn K c13 [.type "ValueError", .type "Exception", .type "BaseException", .type "object"] "ValueError.__new__" = true)
    (ek13 : PySem.W.keepIn K (.ref c13) = true)
    (es13 : PySem.W.subIn K (.ref c13) (.type "BaseException") = some true)
    (et13 : PySem.W.typeIn K (.ref c13) = some (.type "type"))
    (ea14 : PySem.W.nsIn K mainGlobals "NoWind" = some (some (.ref c14)))
    (ex14 : PySem.W.excIn K c14 [.type "ValueError", .type "Exception", .type "BaseException", .type "object"] "ValueError.__new__" = true)
    (ek14 : PySem.W.keepIn K (.ref c14) = true)
    (es14 : PySem.W.subIn K (.ref c14) (.type "BaseException") = some true)
    (et14 : PySem.W.typeIn K (.ref c14) = some (.type "type"))
    (ea15 : PySem.W.nsIn K mainGlobals "NoProtest" = some (some (.ref c15)))
    (ex15 : PySem.W.excIn K c15 [.type "ValueError", .type "Exception", .type "BaseException", .type "object"] "ValueError.__new__" = true)
    (ek15 : PySem.W.keepIn K (.ref c15) = true)
    (es15 : PySem.W.subIn K (.ref c15) (.type "BaseException") = some true)
    (et15 : PySem.W.typeIn K (.ref c15) = some (.type "type"))
    (ea16 : PySem.W.nsIn K mainGlobals "NoFacts" = some (some (.ref c16)))
    (ex16 : PySem.W.excIn K c16 [.type "ValueError", .type "Exception", .type "BaseException", .type "object"] "ValueError.__new__" = true)
    (ek16 : PySem.W.keepIn K (.ref c16) = true)
    (es16 : PySem.W.subIn K (.ref c16) (.type "BaseException") = some true)
    (et16 : PySem.W.typeIn K (.ref c16) = some (.type "type"))
    (ea17 : PySem.W.nsIn K mainGlobals "NoOutcome" = some (some (.ref c17)))
    (ex17 : PySem.W.excIn K c17 [.type "ValueError", .type "Exception", .type "BaseException", .type "object"] "ValueError.__new__" = true)
    (ek17 : PySem.W.keepIn K (.ref c17) = true)
    (es17 : PySem.W.subIn K (.ref c17) (.type "BaseException") = some true)
    (et17 : PySem.W.typeIn K (.ref c17) = some (.type "type"))
    (ea18 : PySem.W.nsIn K mainGlobals "Taken" = some (some (.ref c18)))
    (ex18 : PySem.W.excIn K c18 [.type "ValueError", .type "Exception", .type "BaseException", .type "object"] "ValueError.__new__" = true)
    (ek18 : PySem.W.keepIn K (.ref c18) = true)
    (es18 : PySem.W.subIn K (.ref c18) (.type "BaseException") = some true)
    (et18 : PySem.W.typeIn K (.ref c18) = some (.type "type"))
    (ea19 : PySem.W.nsIn K mainGlobals "NoThing" = some (some (.ref c19)))
    (ex19 : PySem.W.excIn K c19 [.type "ValueError", .type "Exception", .type "BaseException", .type "object"] "ValueError.__new__" = true)
    (ek19 : PySem.W.keepIn K (.ref c19) = true)
    (es19 : PySem.W.subIn K (.ref c19) (.type "BaseException") = some true)
    (et19 : PySem.W.typeIn K (.ref c19) = some (.type "type"))
    (ea20 : PySem.W.nsIn K mainGlobals "NoDeed" = some (some (.ref c20)))
    (ex20 : PySem.W.excIn K c20 [.type "ValueError", .type "Exception", .type "BaseException", .type "object"] "ValueError.__new__" = true)
    (ek20 : PySem.W.keepIn K (.ref c20) = true)
    (es20 : PySem.W.subIn K (.ref c20) (.type "BaseException") = some true)
    (et20 : PySem.W.typeIn K (.ref c20) = some (.type "type"))
    (ea21 : PySem.W.nsIn K mainGlobals "NoText" = some (some (.ref c21)))
    (ex21 : PySem.W.excIn K c21 [.type "ValueError", .type "Exception", .type "BaseException", .type "object"] "ValueError.__new__" = true)
    (ek21 : PySem.W.keepIn K (.ref c21) = true)
    (es21 : PySem.W.subIn K (.ref c21) (.type "BaseException") = some true)
    (et21 : PySem.W.typeIn K (.ref c21) = some (.type "type"))
    (wd0 : PySem.W.hasDictIn K c0 = true)
    (wd1 : PySem.W.hasDictIn K c1 = true)
    (wd2 : PySem.W.hasDictIn K c2 = true)
    (wd3 : PySem.W.hasDictIn K c3 = true)
    (wd4 : PySem.W.hasDictIn K c4 = true)
    (wd5 : PySem.W.hasDictIn K c5 = true)
    (wd6 : PySem.W.hasDictIn K c6 = true)
    (wd7 : PySem.W.hasDictIn K c7 = true)
    (wd8 : PySem.W.hasDictIn K c8 = true)
    (wd9 : PySem.W.hasDictIn K c9 = true)
    (wd10 : PySem.W.hasDictIn K c10 = true)
    (wd11 : PySem.W.hasDictIn K c11 = true)
    (wd12 : PySem.W.hasDictIn K c12 = true)
    (wd13 : PySem.W.hasDictIn K c13 = true)
    (wd14 : PySem.W.hasDictIn K c14 = true)
    (wd15 : PySem.W.hasDictIn K c15 = true)
    (wd16 : PySem.W.hasDictIn K c16 = true)
    (wd17 : PySem.W.hasDictIn K c17 = true)
    (wd18 : PySem.W.hasDictIn K c18 = true)
    (wd19 : PySem.W.hasDictIn K c19 = true)
    (wd20 : PySem.W.hasDictIn K c20 = true)
    (wd21 : PySem.W.hasDictIn K c21 = true)
    (wn : PySem.W.specialIn K (.builtin "object.__class__") "__get__" = some (some (.builtin "getset_descriptor.__get__")))
    (wt : PySem.W.takesIn K (.builtin "object.__class__") = some true)
    (ws1_0 : PySem.W.subIn K (.ref c1) (.ref c0) = some true)
    (ws1_1 : PySem.W.subIn K (.ref c1) (.ref c1) = some true)
    (ws1_2 : PySem.W.subIn K (.ref c1) (.ref c2) = some false)
    (ws1_3 : PySem.W.subIn K (.ref c1) (.ref c3) = some false)
    (ws1_4 : PySem.W.subIn K (.ref c1) (.ref c4) = some false)
    (ws1_5 : PySem.W.subIn K (.ref c1) (.ref c5) = some false)
    (ws1_6 : PySem.W.subIn K (.ref c1) (.ref c6) = some false)
    (ws1_7 : PySem.W.subIn K (.ref c1) (.ref c7) = some false)
    (ws1_8 : PySem.W.subIn K (.ref c1) (.ref c8) = some false)
    (ws1_9 : PySem.W.subIn K (.ref c1) (.ref c9) = some false)
    (ws1_10 : PySem.W.subIn K (.ref c1) (.ref c10) = some false)
    (ws1_11 : PySem.W.subIn K (.ref c1) (.ref c11) = some false)
    (ws1_12 : PySem.W.subIn K (.ref c1) (.ref c12) = some false)
    (ws1_13 : PySem.W.subIn K (.ref c1) (.ref c13) = some false)
    (ws1_14 : PySem.W.subIn K (.ref c1) (.ref c14) = some false)
    (ws1_15 : PySem.W.subIn K (.ref c1) (.ref c15) = some false)
    (ws1_16 : PySem.W.subIn K (.ref c1) (.ref c16) = some false)
    (ws1_17 : PySem.W.subIn K (.ref c1) (.ref c17) = some false)
    (ws1_18 : PySem.W.subIn K (.ref c1) (.ref c18) = some false)
    (ws1_19 : PySem.W.subIn K (.ref c1) (.ref c19) = some false)
    (ws1_20 : PySem.W.subIn K (.ref c1) (.ref c20) = some false)
    (ws1_21 : PySem.W.subIn K (.ref c1) (.ref c21) = some false)
    (wv1 : PySem.W.subIn K (.ref c1) (.type "ValueError") = some true)
    (wg1 : PySem.W.findIn K (.ref c1) "__getattribute__" = some (some (.builtin "BaseException.__getattribute__")))
    (wh1 : PySem.W.findIn K (.ref c1) "__getattr__" = some none)
    (wa1 : PySem.W.findIn K (.ref c1) "__class__" = some (some (.builtin "object.__class__")))
    (wm1 : PySem.W.mroIn K c1 (.type "object") = some true)
    (ws2_0 : PySem.W.subIn K (.ref c2) (.ref c0) = some true)
    (ws2_1 : PySem.W.subIn K (.ref c2) (.ref c1) = some false)
    (ws2_2 : PySem.W.subIn K (.ref c2) (.ref c2) = some true)
    (ws2_3 : PySem.W.subIn K (.ref c2) (.ref c3) = some false)
    (ws2_4 : PySem.W.subIn K (.ref c2) (.ref c4) = some false)
    (ws2_5 : PySem.W.subIn K (.ref c2) (.ref c5) = some false)
    (ws2_6 : PySem.W.subIn K (.ref c2) (.ref c6) = some false)
    (ws2_7 : PySem.W.subIn K (.ref c2) (.ref c7) = some false)
    (ws2_8 : PySem.W.subIn K (.ref c2) (.ref c8) = some false)
    (ws2_9 : PySem.W.subIn K (.ref c2) (.ref c9) = some false)
    (ws2_10 : PySem.W.subIn K (.ref c2) (.ref c10) = some false)
    (ws2_11 : PySem.W.subIn K (.ref c2) (.ref c11) = some false)
    (ws2_12 : PySem.W.subIn K (.ref c2) (.ref c12) = some false)
    (ws2_13 : PySem.W.subIn K (.ref c2) (.ref c13) = some false)
    (ws2_14 : PySem.W.subIn K (.ref c2) (.ref c14) = some false)
    (ws2_15 : PySem.W.subIn K (.ref c2) (.ref c15) = some false)
    (ws2_16 : PySem.W.subIn K (.ref c2) (.ref c16) = some false)
    (ws2_17 : PySem.W.subIn K (.ref c2) (.ref c17) = some false)
    (ws2_18 : PySem.W.subIn K (.ref c2) (.ref c18) = some false)
    (ws2_19 : PySem.W.subIn K (.ref c2) (.ref c19) = some false)
    (ws2_20 : PySem.W.subIn K (.ref c2) (.ref c20) = some false)
    (ws2_21 : PySem.W.subIn K (.ref c2) (.ref c21) = some false)
    (wv2 : PySem.W.subIn K (.ref c2) (.type "ValueError") = some true)
    (wg2 : PySem.W.findIn K (.ref c2) "__getattribute__" = some (some (.builtin "BaseException.__getattribute__")))
    (wh2 : PySem.W.findIn K (.ref c2) "__getattr__" = some none)
    (wa2 : PySem.W.findIn K (.ref c2) "__class__" = some (some (.builtin "object.__class__")))
    (wm2 : PySem.W.mroIn K c2 (.type "object") = some true)
    (ws3_0 : PySem.W.subIn K (.ref c3) (.ref c0) = some true)
    (ws3_1 : PySem.W.subIn K (.ref c3) (.ref c1) = some false)
    (ws3_2 : PySem.W.subIn K (.ref c3) (.ref c2) = some false)
    (ws3_3 : PySem.W.subIn K (.ref c3) (.ref c3) = some true)
    (ws3_4 : PySem.W.subIn K (.ref c3) (.ref c4) = some false)
    (ws3_5 : PySem.W.subIn K (.ref c3) (.ref c5) = some false)
    (ws3_6 : PySem.W.subIn K (.ref c3) (.ref c6) = some false)
    (ws3_7 : PySem.W.subIn K (.ref c3) (.ref c7) = some false)
    (ws3_8 : PySem.W.subIn K (.ref c3) (.ref c8) = some false)
    (ws3_9 : PySem.W.subIn K (.ref c3) (.ref c9) = some false)
    (ws3_10 : PySem.W.subIn K (.ref c3) (.ref c10) = some false)
    (ws3_11 : PySem.W.subIn K (.ref c3) (.ref c11) = some false)
    (ws3_12 : PySem.W.subIn K (.ref c3) (.ref c12) = some false)
    (ws3_13 : PySem.W.subIn K (.ref c3) (.ref c13) = some false)
    (ws3_14 : PySem.W.subIn K (.ref c3) (.ref c14) = some false)
    (ws3_15 : PySem.W.subIn K (.ref c3) (.ref c15) = some false)
    (ws3_16 : PySem.W.subIn K (.ref c3) (.ref c16) = some false)
    (ws3_17 : PySem.W.subIn K (.ref c3) (.ref c17) = some false)
    (ws3_18 : PySem.W.subIn K (.ref c3) (.ref c18) = some false)
    (ws3_19 : PySem.W.subIn K (.ref c3) (.ref c19) = some false)
    (ws3_20 : PySem.W.subIn K (.ref c3) (.ref c20) = some false)
    (ws3_21 : PySem.W.subIn K (.ref c3) (.ref c21) = some false)
    (wv3 : PySem.W.subIn K (.ref c3) (.type "ValueError") = some true)
    (wg3 : PySem.W.findIn K (.ref c3) "__getattribute__" = some (some (.builtin "BaseException.__getattribute__")))
    (wh3 : PySem.W.findIn K (.ref c3) "__getattr__" = some none)
    (wa3 : PySem.W.findIn K (.ref c3) "__class__" = some (some (.builtin "object.__class__")))
    (wm3 : PySem.W.mroIn K c3 (.type "object") = some true)
    (ws4_0 : PySem.W.subIn K (.ref c4) (.ref c0) = some true)
    (ws4_1 : PySem.W.subIn K (.ref c4) (.ref c1) = some false)
    (ws4_2 : PySem.W.subIn K (.ref c4) (.ref c2) = some false)
    (ws4_3 : PySem.W.subIn K (.ref c4) (.ref c3) = some false)
    (ws4_4 : PySem.W.subIn K (.ref c4) (.ref c4) = some true)
    (ws4_5 : PySem.W.subIn K (.ref c4) (.ref c5) = some false)
    (ws4_6 : PySem.W.subIn K (.ref c4) (.ref c6) = some false)
    (ws4_7 : PySem.W.subIn K (.ref c4) (.ref c7) = some false)
    (ws4_8 : PySem.W.subIn K (.ref c4) (.ref c8) = some false)
    (ws4_9 : PySem.W.subIn K (.ref c4) (.ref c9) = some false)
    (ws4_10 : PySem.W.subIn K (.ref c4) (.ref c10) = some false)
    (ws4_11 : PySem.W.subIn K (.ref c4) (.ref c11) = some false)
    (ws4_12 : PySem.W.subIn K (.ref c4) (.ref c12) = some false)
    (ws4_13 : PySem.W.subIn K (.ref c4) (.ref c13) = some false)
    (ws4_14 : PySem.W.subIn K (.ref c4) (.ref c14) = some false)
    (ws4_15 : PySem.W.subIn K (.ref c4) (.ref c15) = some false)
    (ws4_16 : PySem.W.subIn K (.ref c4) (.ref c16) = some false)
    (ws4_17 : PySem.W.subIn K (.ref c4) (.ref c17) = some false)
    (ws4_18 : PySem.W.subIn K (.ref c4) (.ref c18) = some false)
    (ws4_19 : PySem.W.subIn K (.ref c4) (.ref c19) = some false)
    (ws4_20 : PySem.W.subIn K (.ref c4) (.ref c20) = some false)
    (ws4_21 : PySem.W.subIn K (.ref c4) (.ref c21) = some false)
    (wv4 : PySem.W.subIn K (.ref c4) (.type "ValueError") = some true)
    (wg4 : PySem.W.findIn K (.ref c4) "__getattribute__" = some (some (.builtin "BaseException.__getattribute__")))
    (wh4 : PySem.W.findIn K (.ref c4) "__getattr__" = some none)
    (wa4 : PySem.W.findIn K (.ref c4) "__class__" = some (some (.builtin "object.__class__")))
    (wm4 : PySem.W.mroIn K c4 (.type "object") = some true)
    (ws5_0 : PySem.W.subIn K (.ref c5) (.ref c0) = some true)
    (ws5_1 : PySem.W.subIn K (.ref c5) (.ref c1) = some false)
    (ws5_2 : PySem.W.subIn K (.ref c5) (.ref c2) = some false)
    (ws5_3 : PySem.W.subIn K (.ref c5) (.ref c3) = some false)
    (ws5_4 : PySem.W.subIn K (.ref c5) (.ref c4) = some false)
    (ws5_5 : PySem.W.subIn K (.ref c5) (.ref c5) = some true)
    (ws5_6 : PySem.W.subIn K (.ref c5) (.ref c6) = some false)
    (ws5_7 : PySem.W.subIn K (.ref c5) (.ref c7) = some false)
    (ws5_8 : PySem.W.subIn K (.ref c5) (.ref c8) = some false)
    (ws5_9 : PySem.W.subIn K (.ref c5) (.ref c9) = some false)
    (ws5_10 : PySem.W.subIn K (.ref c5) (.ref c10) = some false)
    (ws5_11 : PySem.W.subIn K (.ref c5) (.ref c11) = some false)
    (ws5_12 : PySem.W.subIn K (.ref c5) (.ref c12) = some false)
    (ws5_13 : PySem.W.subIn K (.ref c5) (.ref c13) = some false)
    (ws5_14 : PySem.W.subIn K (.ref c5) (.ref c14) = some false)
    (ws5_15 : PySem.W.subIn K (.ref c5) (.ref c15) = some false)
    (ws5_16 : PySem.W.subIn K (.ref c5) (.ref c16) = some false)
    (ws5_17 : PySem.W.subIn K (.ref c5) (.ref c17) = some false)
    (ws5_18 : PySem.W.subIn K (.ref c5) (.ref c18) = some false)
    (ws5_19 : PySem.W.subIn K (.ref c5) (.ref c19) = some false)
    (ws5_20 : PySem.W.subIn K (.ref c5) (.ref c20) = some false)
    (ws5_21 : PySem.W.subIn K (.ref c5) (.ref c21) = some false)
    (wv5 : PySem.W.subIn K (.ref c5) (.type "ValueError") = some true)
    (wg5 : PySem.W.findIn K (.ref c5) "__getattribute__" = some (some (.builtin "BaseException.__getattribute__")))
    (wh5 : PySem.W.findIn K (.ref c5) "__getattr__" = some none)
    (wa5 : PySem.W.findIn K (.ref c5) "__class__" = some (some (.builtin "object.__class__")))
    (wm5 : PySem.W.mroIn K c5 (.type "object") = some true)
    (ws6_0 : PySem.W.subIn K (.ref c6) (.ref c0) = some true)
    (ws6_1 : PySem.W.subIn K (.ref c6) (.ref c1) = some false)
    (ws6_2 : PySem.W.subIn K (.ref c6) (.ref c2) = some false)
    (ws6_3 : PySem.W.subIn K (.ref c6) (.ref c3) = some false)
    (ws6_4 : PySem.W.subIn K (.ref c6) (.ref c4) = some false)
    (ws6_5 : PySem.W.subIn K (.ref c6) (.ref c5) = some false)
    (ws6_6 : PySem.W.subIn K (.ref c6) (.ref c6) = some true)
    (ws6_7 : PySem.W.subIn K (.ref c6) (.ref c7) = some false)
    (ws6_8 : PySem.W.subIn K (.ref c6) (.ref c8) = some false)
    (ws6_9 : PySem.W.subIn K (.ref c6) (.ref c9) = some false)
    (ws6_10 : PySem.W.subIn K (.ref c6) (.ref c10) = some false)
    (ws6_11 : PySem.W.subIn K (.ref c6) (.ref c11) = some false)
    (ws6_12 : PySem.W.subIn K (.ref c6) (.ref c12) = some false)
    (ws6_13 : PySem.W.subIn K (.ref c6) (.ref c13) = some false)
    (ws6_14 : PySem.W.subIn K (.ref c6) (.ref c14) = some false)
    (ws6_15 : PySem.W.subIn K (.ref c6) (.ref c15) = some false)
    (ws6_16 : PySem.W.subIn K (.ref c6) (.ref c16) = some false)
    (ws6_17 : PySem.W.subIn K (.ref c6) (.ref c17) = some false)
    (ws6_18 : PySem.W.subIn K (.ref c6) (.ref c18) = some false)
    (ws6_19 : PySem.W.subIn K (.ref c6) (.ref c19) = some false)
    (ws6_20 : PySem.W.subIn K (.ref c6) (.ref c20) = some false)
    (ws6_21 : PySem.W.subIn K (.ref c6) (.ref c21) = some false)
    (wv6 : PySem.W.subIn K (.ref c6) (.type "ValueError") = some true)
    (wg6 : PySem.W.findIn K (.ref c6) "__getattribute__" = some (some (.builtin "BaseException.__getattribute__")))
    (wh6 : PySem.W.findIn K (.ref c6) "__getattr__" = some none)
    (wa6 : PySem.W.findIn K (.ref c6) "__class__" = some (some (.builtin "object.__class__")))
    (wm6 : PySem.W.mroIn K c6 (.type "object") = some true)
    (z0 : PySem.W.nsIn K mainGlobals "ValueError" = some none)
    (z1 : PySem.W.nsIn K mainGlobals "abs" = some none)
    (z2 : PySem.W.nsIn K mainGlobals "all" = some none)
    (z3 : PySem.W.nsIn K mainGlobals "bool" = some none)
    (z4 : PySem.W.nsIn K mainGlobals "enumerate" = some none)
    (z5 : PySem.W.nsIn K mainGlobals "int" = some none)
    (z6 : PySem.W.nsIn K mainGlobals "isinstance" = some none)
    (z7 : PySem.W.nsIn K mainGlobals "len" = some none)
    (z8 : PySem.W.nsIn K mainGlobals "range" = some none)
    (z9 : PySem.W.nsIn K mainGlobals "sorted" = some none)
    (z10 : PySem.W.nsIn K mainGlobals "tuple" = some none)
    (z11 : PySem.W.nsIn K mainGlobals "zip" = some none)
    (ga0 : PySem.W.nsIn K mainGlobals "LAST" = some (some (.int 10000 g0)))
    (ga1 : PySem.W.nsIn K mainGlobals "FAR" = some (some (.int 1000 g1)))
    (ga2 : PySem.W.nsIn K mainGlobals "LATE" = some (some (.int 100000 g2)))
    (a0 : PySem.W.nsIn K mainGlobals "is_whole" = some (some (.ref f0)))
    (l0 : K.lookup f0 = some ⟨oc0, od0, .func (PySem.W.fnOf "is_whole" "is_whole" (defArgs s_is_whole) (defBody s_is_whole) (defScope s_is_whole) .none kV0 dc0 pm0 an0 cd0 ct0), sl0⟩)
    (c0c : PySem.W.codeIn K cd0 "is_whole" = true)
    (k0 : PySem.W.keepIn K (.ref f0) = true)
    (a1 : PySem.W.nsIn K mainGlobals "common" = some (some (.ref f1)))
    (l1 : K.lookup f1 = some ⟨oc1, od1, .func (PySem.W.fnOf "common" "common" (defArgs s_common) (defBody s_common) (defScope s_common) .none kV1 dc1 pm1 an1 cd1 ct1), sl1⟩)
    (c1c : PySem.W.codeIn K cd1 "common" = true)
    (k1 : PySem.W.keepIn K (.ref f1) = true)
    (a2 : PySem.W.nsIn K mainGlobals "share" = some (some (.ref f2)))
    (l2 : K.lookup f2 = some ⟨oc2, od2, .func (PySem.W.fnOf "share" "share" (defArgs s_share) (defBody s_share) (defScope s_share) .none kV2 dc2 pm2 an2 cd2 ct2), sl2⟩)
    (c2c : PySem.W.codeIn K cd2 "share" = true)
    (k2 : PySem.W.keepIn K (.ref f2) = true)
    (a3 : PySem.W.nsIn K mainGlobals "is_share" = some (some (.ref f3)))
    (l3 : K.lookup f3 = some ⟨oc3, od3, .func (PySem.W.fnOf "is_share" "is_share" (defArgs s_is_share) (defBody s_is_share) (defScope s_is_share) .none kV3 dc3 pm3 an3 cd3 ct3), sl3⟩)
    (c3c : PySem.W.codeIn K cd3 "is_share" = true)
    (k3 : PySem.W.keepIn K (.ref f3) = true)
    (a4 : PySem.W.nsIn K mainGlobals "plus" = some (some (.ref f4)))
    (l4 : K.lookup f4 = some ⟨oc4, od4, .func (PySem.W.fnOf "plus" "plus" (defArgs s_plus) (defBody s_plus) (defScope s_plus) .none kV4 dc4 pm4 an4 cd4 ct4), sl4⟩)
    (c4c : PySem.W.codeIn K cd4 "plus" = true)
    (k4 : PySem.W.keepIn K (.ref f4) = true)
    (a5 : PySem.W.nsIn K mainGlobals "minus" = some (some (.ref f5)))
    (l5 : K.lookup f5 = some ⟨oc5, od5, .func (PySem.W.fnOf "minus" "minus" (defArgs s_minus) (defBody s_minus) (defScope s_minus) .none kV5 dc5 pm5 an5 cd5 ct5), sl5⟩)
    (c5c : PySem.W.codeIn K cd5 "minus" = true)
    (k5 : PySem.W.keepIn K (.ref f5) = true)
    (a6 : PySem.W.nsIn K mainGlobals "times" = some (some (.ref f6)))
    (l6 : K.lookup f6 = some ⟨oc6, od6, .func (PySem.W.fnOf "times" "times" (defArgs s_times) (defBody s_times) (defScope s_times) .none kV6 dc6 pm6 an6 cd6 ct6), sl6⟩)
    (c6c : PySem.W.codeIn K cd6 "times" = true)
    (k6 : PySem.W.keepIn K (.ref f6) = true)
    (a7 : PySem.W.nsIn K mainGlobals "less" = some (some (.ref f7)))
    (l7 : K.lookup f7 = some ⟨oc7, od7, .func (PySem.W.fnOf "less" "less" (defArgs s_less) (defBody s_less) (defScope s_less) .none kV7 dc7 pm7 an7 cd7 ct7), sl7⟩)
    (c7c : PySem.W.codeIn K cd7 "less" = true)
    (k7 : PySem.W.keepIn K (.ref f7) = true)
    (a8 : PySem.W.nsIn K mainGlobals "is_tide" = some (some (.ref f8)))
    (l8 : K.lookup f8 = some ⟨oc8, od8, .func (PySem.W.fnOf "is_tide" "is_tide" (defArgs s_is_tide) (defBody s_is_tide) (defScope s_is_tide) .none kV8 dc8 pm8 an8 cd8 ct8), sl8⟩)
    (c8c : PySem.W.codeIn K cd8 "is_tide" = true)
    (k8 : PySem.W.keepIn K (.ref f8) = true)
    (a9 : PySem.W.nsIn K mainGlobals "water" = some (some (.ref f9)))
    (l9 : K.lookup f9 = some ⟨oc9, od9, .func (PySem.W.fnOf "water" "water" (defArgs s_water) (defBody s_water) (defScope s_water) .none kV9 dc9 pm9 an9 cd9 ct9), sl9⟩)
    (c9c : PySem.W.codeIn K cd9 "water" = true)
    (k9 : PySem.W.keepIn K (.ref f9) = true)
    (a10 : PySem.W.nsIn K mainGlobals "height_at" = some (some (.ref f10)))
    (l10 : K.lookup f10 = some ⟨oc10, od10, .func (PySem.W.fnOf "height_at" "height_at" (defArgs s_height_at) (defBody s_height_at) (defScope s_height_at) .none kV10 dc10 pm10 an10 cd10 ct10), sl10⟩)
    (c10c : PySem.W.codeIn K cd10 "height_at" = true)
    (k10 : PySem.W.keepIn K (.ref f10) = true)
    (a11 : PySem.W.nsIn K mainGlobals "moments" = some (some (.ref f11)))
    (l11 : K.lookup f11 = some ⟨oc11, od11, .func (PySem.W.fnOf "moments" "moments" (defArgs s_moments) (defBody s_moments) (defScope s_moments) .none kV11 dc11 pm11 an11 (.ref lc) ct11), sl11⟩)
    (c11c : PySem.W.codeIn K (.ref lc) "moments" = true)
    (k11 : PySem.W.keepIn K (.ref f11) = true)
    (a12 : PySem.W.nsIn K mainGlobals "deep" = some (some (.ref f12)))
    (l12 : K.lookup f12 = some ⟨oc12, od12, .func (PySem.W.fnOf "deep" "deep" (defArgs s_deep) (defBody s_deep) (defScope s_deep) .none kV12 dc12 pm12 an12 cd12 ct12), sl12⟩)
    (c12c : PySem.W.codeIn K cd12 "deep" = true)
    (k12 : PySem.W.keepIn K (.ref f12) = true)
    (a13 : PySem.W.nsIn K mainGlobals "is_point" = some (some (.ref f13)))
    (l13 : K.lookup f13 = some ⟨oc13, od13, .func (PySem.W.fnOf "is_point" "is_point" (defArgs s_is_point) (defBody s_is_point) (defScope s_is_point) .none kV13 dc13 pm13 an13 cd13 ct13), sl13⟩)
    (c13c : PySem.W.codeIn K cd13 "is_point" = true)
    (k13 : PySem.W.keepIn K (.ref f13) = true)
    (a14 : PySem.W.nsIn K mainGlobals "is_track" = some (some (.ref f14)))
    (l14 : K.lookup f14 = some ⟨oc14, od14, .func (PySem.W.fnOf "is_track" "is_track" (defArgs s_is_track) (defBody s_is_track) (defScope s_is_track) .none kV14 dc14 pm14 an14 cd14 ct14), sl14⟩)
    (c14c : PySem.W.codeIn K cd14 "is_track" = true)
    (k14 : PySem.W.keepIn K (.ref f14) = true)
    (a15 : PySem.W.nsIn K mainGlobals "is_gate" = some (some (.ref f15)))
    (l15 : K.lookup f15 = some ⟨oc15, od15, .func (PySem.W.fnOf "is_gate" "is_gate" (defArgs s_is_gate) (defBody s_is_gate) (defScope s_is_gate) .none kV15 dc15 pm15 an15 cd15 ct15), sl15⟩)
    (c15c : PySem.W.codeIn K cd15 "is_gate" = true)
    (k15 : PySem.W.keepIn K (.ref f15) = true)
    (a16 : PySem.W.nsIn K mainGlobals "is_course" = some (some (.ref f16)))
    (l16 : K.lookup f16 = some ⟨oc16, od16, .func (PySem.W.fnOf "is_course" "is_course" (defArgs s_is_course) (defBody s_is_course) (defScope s_is_course) .none kV16 dc16 pm16 an16 cd16 ct16), sl16⟩)
    (c16c : PySem.W.codeIn K cd16 "is_course" = true)
    (k16 : PySem.W.keepIn K (.ref f16) = true)
    (a17 : PySem.W.nsIn K mainGlobals "side" = some (some (.ref f17)))
    (l17 : K.lookup f17 = some ⟨oc17, od17, .func (PySem.W.fnOf "side" "side" (defArgs s_side) (defBody s_side) (defScope s_side) .none kV17 dc17 pm17 an17 cd17 ct17), sl17⟩)
    (c17c : PySem.W.codeIn K cd17 "side" = true)
    (k17 : PySem.W.keepIn K (.ref f17) = true)
    (a18 : PySem.W.nsIn K mainGlobals "is_on" = some (some (.ref f18)))
    (l18 : K.lookup f18 = some ⟨oc18, od18, .func (PySem.W.fnOf "is_on" "is_on" (defArgs s_is_on) (defBody s_is_on) (defScope s_is_on) .none kV18 dc18 pm18 an18 cd18 ct18), sl18⟩)
    (c18c : PySem.W.codeIn K cd18 "is_on" = true)
    (k18 : PySem.W.keepIn K (.ref f18) = true)
    (a19 : PySem.W.nsIn K mainGlobals "all_crossings" = some (some (.ref f19)))
    (l19 : K.lookup f19 = some ⟨oc19, od19, .func (PySem.W.fnOf "all_crossings" "all_crossings" (defArgs s_all_crossings) (defBody s_all_crossings) (defScope s_all_crossings) .none kV19 dc19 pm19 an19 cd19 ct19), sl19⟩)
    (c19c : PySem.W.codeIn K cd19 "all_crossings" = true)
    (k19 : PySem.W.keepIn K (.ref f19) = true)
    (a20 : PySem.W.nsIn K mainGlobals "crossings" = some (some (.ref f20)))
    (l20 : K.lookup f20 = some ⟨oc20, od20, .func (PySem.W.fnOf "crossings" "crossings" (defArgs s_crossings) (defBody s_crossings) (defScope s_crossings) .none kV20 dc20 pm20 an20 cd20 ct20), sl20⟩)
    (c20c : PySem.W.codeIn K cd20 "crossings" = true)
    (k20 : PySem.W.keepIn K (.ref f20) = true)
    (a21 : PySem.W.nsIn K mainGlobals "start_of" = some (some (.ref f21)))
    (l21 : K.lookup f21 = some ⟨oc21, od21, .func (PySem.W.fnOf "start_of" "start_of" (defArgs s_start_of) (defBody s_start_of) (defScope s_start_of) .none kV21 dc21 pm21 an21 cd21 ct21), sl21⟩)
    (c21c : PySem.W.codeIn K cd21 "start_of" = true)
    (k21 : PySem.W.keepIn K (.ref f21) = true)
    (a22 : PySem.W.nsIn K mainGlobals "sailed" = some (some (.ref f22)))
    (l22 : K.lookup f22 = some ⟨oc22, od22, .func (PySem.W.fnOf "sailed" "sailed" (defArgs s_sailed) (defBody s_sailed) (defScope s_sailed) .none kV22 dc22 pm22 an22 cd22 ct22), sl22⟩)
    (c22c : PySem.W.codeIn K cd22 "sailed" = true)
    (k22 : PySem.W.keepIn K (.ref f22) = true)
    (a23 : PySem.W.nsIn K mainGlobals "_law_draw" = some (some (.ref f23)))
    (l23 : K.lookup f23 = some ⟨oc23, od23, .func (PySem.W.fnOf "_law_draw" "_law_draw" (defArgs s__law_draw) (defBody s__law_draw) (defScope s__law_draw) .none kV23 dc23 pm23 an23 cd23 ct23), sl23⟩)
    (c23c : PySem.W.codeIn K cd23 "_law_draw" = true)
    (k23 : PySem.W.keepIn K (.ref f23) = true)
    (a24 : PySem.W.nsIn K mainGlobals "_law_pick" = some (some (.ref f24)))
    (l24 : K.lookup f24 = some ⟨oc24, od24, .func (PySem.W.fnOf "_law_pick" "_law_pick" (defArgs s__law_pick) (defBody s__law_pick) (defScope s__law_pick) .none kV24 dc24 pm24 an24 cd24 ct24), sl24⟩)
    (c24c : PySem.W.codeIn K cd24 "_law_pick" = true)
    (k24 : PySem.W.keepIn K (.ref f24) = true)
    (a25 : PySem.W.nsIn K mainGlobals "_law_which" = some (some (.ref f25)))
    (l25 : K.lookup f25 = some ⟨oc25, od25, .func (PySem.W.fnOf "_law_which" "_law_which" (defArgs s__law_which) (defBody s__law_which) (defScope s__law_which) .none kV25 dc25 pm25 an25 cd25 ct25), sl25⟩)
    (c25c : PySem.W.codeIn K cd25 "_law_which" = true)
    (k25 : PySem.W.keepIn K (.ref f25) = true)
    (a26 : PySem.W.nsIn K mainGlobals "_law_ask" = some (some (.ref f26)))
    (l26 : K.lookup f26 = some ⟨oc26, od26, .func (PySem.W.fnOf "_law_ask" "_law_ask" (defArgs s__law_ask) (defBody s__law_ask) (defScope s__law_ask) .none kV26 dc26 pm26 an26 cd26 ct26), sl26⟩)
    (c26c : PySem.W.codeIn K cd26 "_law_ask" = true)
    (k26 : PySem.W.keepIn K (.ref f26) = true)
    (a27 : PySem.W.nsIn K mainGlobals "_law_tides" = some (some (.ref f27)))
    (l27 : K.lookup f27 = some ⟨oc27, od27, .func (PySem.W.fnOf "_law_tides" "_law_tides" (defArgs s__law_tides) (defBody s__law_tides) (defScope s__law_tides) .none kV27 dc27 pm27 an27 cd27 ct27), sl27⟩)
    (c27c : PySem.W.codeIn K cd27 "_law_tides" = true)
    (k27 : PySem.W.keepIn K (.ref f27) = true)
    (a28 : PySem.W.nsIn K mainGlobals "_law_tracks" = some (some (.ref f28)))
    (l28 : K.lookup f28 = some ⟨oc28, od28, .func (PySem.W.fnOf "_law_tracks" "_law_tracks" (defArgs s__law_tracks) (defBody s__law_tracks) (defScope s__law_tracks) .none kV28 dc28 pm28 an28 cd28 ct28), sl28⟩)
    (c28c : PySem.W.codeIn K cd28 "_law_tracks" = true)
    (k28 : PySem.W.keepIn K (.ref f28) = true)
    (a29 : PySem.W.nsIn K mainGlobals "law" = some (some (.ref f29)))
    (l29 : K.lookup f29 = some ⟨oc29, od29, .func (PySem.W.fnOf "law" "law" (defArgs s_law) (defBody s_law) (defScope s_law) .none kV29 dc29 pm29 an29 cd29 ct29), sl29⟩)
    (c29c : PySem.W.codeIn K cd29 "law" = true)
    (k29 : PySem.W.keepIn K (.ref f29) = true)
    (tn : PySem.W.tabIn K "moments" = some (lc, lp))
    (tp : K.lookup lp = none) :
    ∃ (fd : FuncData) (c P : Addr), PySem.W.tabIn K "moments" = some (c, P) ∧ K.lookup P = none ∧ (∀ (s : Shared) (v : Value), BindsTo s fd ⟨[v], []⟩ [("_law_script", v)]) ∧ ∀ base : Heap, K.In base → base.Ns mainGlobals mg → TabB base mg c P → FnOk l.prog w K mg base (L2.CX l.prog w) 8 fa fd ["_law_script"] (spLawT K [(P, lamQ 1)]) := by
  have e := hfa.symm.trans (PySem.W.mg_of X G a29)
  cases e
  have F0 := fun_mk (st := s_is_whole) l0 c0c k0
  have b0 := F0.binds (ps := ["thing", "least", "most"]) fun _ _ _ _ _ _ us hl => match us, hl with | [_, _, _], _ => rfl
  have F1 := fun_mk (st := s_common) l1 c1c k1
  have b1 := F1.binds (ps := ["one", "other"]) fun _ _ _ _ _ _ us hl => match us, hl with | [_, _], _ => rfl
  have F2 := fun_mk (st := s_share) l2 c2c k2
  have b2 := F2.binds (ps := ["top", "below"]) fun _ _ _ _ _ _ us hl => match us, hl with | [_, _], _ => rfl
  have F3 := fun_mk (st := s_is_share) l3 c3c k3
  have b3 := F3.binds (ps := ["thing"]) fun _ _ _ _ _ _ us hl => match us, hl with | [_], _ => rfl
  have F4 := fun_mk (st := s_plus) l4 c4c k4
  have b4 := F4.binds (ps := ["one", "other"]) fun _ _ _ _ _ _ us hl => match us, hl with | [_, _], _ => rfl
  have F5 := fun_mk (st := s_minus) l5 c5c k5
  have b5 := F5.binds (ps := ["one", "other"]) fun _ _ _ _ _ _ us hl => match us, hl with | [_, _], _ => rfl
  have F6 := fun_mk (st := s_times) l6 c6c k6
  have b6 := F6.binds (ps := ["one", "other"]) fun _ _ _ _ _ _ us hl => match us, hl with | [_, _], _ => rfl
  have F7 := fun_mk (st := s_less) l7 c7c k7
  have b7 := F7.binds (ps := ["one", "other"]) fun _ _ _ _ _ _ us hl => match us, hl with | [_, _], _ => rfl
  have F8 := fun_mk (st := s_is_tide) l8 c8c k8
  have b8 := F8.binds (ps := ["thing"]) fun _ _ _ _ _ _ us hl => match us, hl with | [_], _ => rfl
  have F9 := fun_mk (st := s_water) l9 c9c k9
  have b9 := F9.binds (ps := ["tide", "at"]) fun _ _ _ _ _ _ us hl => match us, hl with | [_, _], _ => rfl
  have F10 := fun_mk (st := s_height_at) l10 c10c k10
  have b10 := F10.binds (ps := ["tide", "at"]) fun _ _ _ _ _ _ us hl => match us, hl with | [_, _], _ => rfl
  have F11 := fun_mk (st := s_moments) l11 c11c k11
  have b11 := F11.binds (ps := ["tide", "low", "start", "end"]) fun _ _ _ _ _ _ us hl => match us, hl with | [_, _, _, _], _ => rfl
  have F12 := fun_mk (st := s_deep) l12 c12c k12
  have F13 := fun_mk (st := s_is_point) l13 c13c k13
  have b13 := F13.binds (ps := ["thing"]) fun _ _ _ _ _ _ us hl => match us, hl with | [_], _ => rfl
  have F14 := fun_mk (st := s_is_track) l14 c14c k14
  have b14 := F14.binds (ps := ["thing"]) fun _ _ _ _ _ _ us hl => match us, hl with | [_], _ => rfl
  have F15 := fun_mk (st := s_is_gate) l15 c15c k15
  have b15 := F15.binds (ps := ["thing"]) fun _ _ _ _ _ _ us hl => match us, hl with | [_], _ => rfl
  have F16 := fun_mk (st := s_is_course) l16 c16c k16
  have b16 := F16.binds (ps := ["thing"]) fun _ _ _ _ _ _ us hl => match us, hl with | [_], _ => rfl
  have F17 := fun_mk (st := s_side) l17 c17c k17
  have b17 := F17.binds (ps := ["gate", "x", "y"]) fun _ _ _ _ _ _ us hl => match us, hl with | [_, _, _], _ => rfl
  have F18 := fun_mk (st := s_is_on) l18 c18c k18
  have b18 := F18.binds (ps := ["gate", "x", "y", "below"]) fun _ _ _ _ _ _ us hl => match us, hl with | [_, _, _, _], _ => rfl
  have F19 := fun_mk (st := s_all_crossings) l19 c19c k19
  have b19 := F19.binds (ps := ["track", "gate"]) fun _ _ _ _ _ _ us hl => match us, hl with | [_, _], _ => rfl
  have F20 := fun_mk (st := s_crossings) l20 c20c k20
  have b20 := F20.binds (ps := ["track", "gate"]) fun _ _ _ _ _ _ us hl => match us, hl with | [_, _], _ => rfl
  have F21 := fun_mk (st := s_start_of) l21 c21c k21
  have b21 := F21.binds (ps := ["some", "gun"]) fun _ _ _ _ _ _ us hl => match us, hl with | [_, _], _ => rfl
  have F22 := fun_mk (st := s_sailed) l22 c22c k22
  have b22 := F22.binds (ps := ["track", "course", "gun"]) fun _ _ _ _ _ _ us hl => match us, hl with | [_, _, _], _ => rfl
  have F23 := fun_mk (st := s__law_draw) l23 c23c k23
  have b23 := F23.binds (ps := ["_law_script", "_law_town", "_law_many"]) fun _ _ _ _ _ _ us hl => match us, hl with | [_, _, _], _ => rfl
  have F24 := fun_mk (st := s__law_pick) l24 c24c k24
  have b24 := F24.binds (ps := ["_law_script", "_law_town", "_law_some"]) fun _ _ _ _ _ _ us hl => match us, hl with | [_, _, _], _ => rfl
  have F25 := fun_mk (st := s__law_which) l25 c25c k25
  have b25 := F25.binds (ps := ["_law_e"]) fun _ _ _ _ _ _ us hl => match us, hl with | [_], _ => rfl
  have F26 := fun_mk (st := s__law_ask) l26 c26c k26
  have b26 := F26.binds (ps := ["_law_what", "_law_one", "_law_other", "_law_third"]) fun _ _ _ _ _ _ us hl => match us, hl with | [_, _, _, _], _ => rfl
  have F27 := fun_mk (st := s__law_tides) l27 c27c k27
  have b27 := F27.binds (ps := ["_law_odd"]) fun _ _ _ _ _ _ us hl => match us, hl with | [_], _ => rfl
  have F28 := fun_mk (st := s__law_tracks) l28 c28c k28
  have b28 := F28.binds (ps := ["_law_odd"]) fun _ _ _ _ _ _ us hl => match us, hl with | [_], _ => rfl
  have F29 := fun_mk (st := s_law) l29 c29c k29
  have B : ∀ base : Heap, TabB base mg lc lp → BB K mg base (fun n => if n = 0 then c0 else if n = 1 then c1 else if n = 2 then c2 else if n = 3 then c3 else if n = 4 then c4 else if n = 5 then c5 else if n = 6 then c6 else if n = 7 then c7 else if n = 8 then c8 else if n = 9 then c9 else if n = 10 then c10 else if n = 11 then c11 else if n = 12 then c12 else if n = 13 then c13 else if n = 14 then c14 else if n = 15 then c15 else if n = 16 then c16 else if n = 17 then c17 else if n = 18 then c18 else if n = 19 then c19 else if n = 20 then c20 else if n = 21 then c21 else if n = 900 then 1 else if n = 1000 then lp else if n = 1001 then 1 else if n = 2000 then lc else 0) := fun base TB => {
    n_ValueError := PySem.W.mg_none_of X G z0
    n_abs := PySem.W.mg_none_of X G z1
    n_all := PySem.W.mg_none_of X G z2
    n_bool := PySem.W.mg_none_of X G z3
    n_enumerate := PySem.W.mg_none_of X G z4
    n_int := PySem.W.mg_none_of X G z5
    n_isinstance := PySem.W.mg_none_of X G z6
    n_len := PySem.W.mg_none_of X G z7
    n_range := PySem.W.mg_none_of X G z8
    n_sorted := PySem.W.mg_none_of X G z9
    n_tuple := PySem.W.mg_none_of X G z10
    n_zip := PySem.W.mg_none_of X G z11
    e_RaceError := ⟨PySem.W.mg_of X G ea0, ex0, ek0, es0, et0⟩
    e_NoShare := ⟨PySem.W.mg_of X G ea1, ex1, ek1, es1, et1⟩
    e_NoTide := ⟨PySem.W.mg_of X G ea2, ex2, ek2, es2, et2⟩
    e_NoNumber := ⟨PySem.W.mg_of X G ea3, ex3, ek3, es3, et3⟩
    e_NoTrack := ⟨PySem.W.mg_of X G ea4, ex4, ek4, es4, et4⟩
    e_NoGate := ⟨PySem.W.mg_of X G ea5, ex5, ek5, es5, et5⟩
    e_NoCourse := ⟨PySem.W.mg_of X G ea6, ex6, ek6, es6, et6⟩
    e_NoRule := ⟨PySem.W.mg_of X G ea7, ex7, ek7, es7, et7⟩
    e_NoEntries := ⟨PySem.W.mg_of X G ea8, ex8, ek8, es8, et8⟩
    e_NoRace := ⟨PySem.W.mg_of X G ea9, ex9, ek9, es9, et9⟩
    e_NoSeries := ⟨PySem.W.mg_of X G ea10, ex10, ek10, es10, et10⟩
    e_NoDrops := ⟨PySem.W.mg_of X G ea11, ex11, ek11, es11, et11⟩
    e_NoBoat := ⟨PySem.W.mg_of X G ea12, ex12, ek12, es12, et12⟩
    e_NoHull := ⟨PySem.W.mg_of X G ea13, ex13, ek13, es13, et13⟩
    e_NoWind := ⟨PySem.W.mg_of X G ea14, ex14, ek14, es14, et14⟩
    e_NoProtest := ⟨PySem.W.mg_of X G ea15, ex15, ek15, es15, et15⟩
    e_NoFacts := ⟨PySem.W.mg_of X G ea16, ex16, ek16, es16, et16⟩
    e_NoOutcome := ⟨PySem.W.mg_of X G ea17, ex17, ek17, es17, et17⟩
    e_Taken := ⟨PySem.W.mg_of X G ea18, ex18, ek18, es18, et18⟩
    e_NoThing := ⟨PySem.W.mg_of X G ea19, ex19, ek19, es19, et19⟩
    e_NoDeed := ⟨PySem.W.mg_of X G ea20, ex20, ek20, es20, et20⟩
    e_NoText := ⟨PySem.W.mg_of X G ea21, ex21, ek21, es21, et21⟩
    c_LAST := ⟨_, PySem.W.mg_of X G ga0⟩
    c_FAR := ⟨_, PySem.W.mg_of X G ga1⟩
    c_LATE := ⟨_, PySem.W.mg_of X G ga2⟩
    tb := TB
    tbm := List.mem_singleton.mpr rfl
    tbu := fun r hr _ => by
      have h2 : r ∈ [(lp, lamQ 1)] := hr
      rw [List.mem_singleton.mp h2]
    d_is_whole := ⟨_, _, F0, PySem.W.mg_of X G a0, b0⟩
    d_common := ⟨_, _, F1, PySem.W.mg_of X G a1, b1⟩
    d_share := ⟨_, _, F2, PySem.W.mg_of X G a2, b2⟩
    d_is_share := ⟨_, _, F3, PySem.W.mg_of X G a3, b3⟩
    d_plus := ⟨_, _, F4, PySem.W.mg_of X G a4, b4⟩
    d_minus := ⟨_, _, F5, PySem.W.mg_of X G a5, b5⟩
    d_times := ⟨_, _, F6, PySem.W.mg_of X G a6, b6⟩
    d_less := ⟨_, _, F7, PySem.W.mg_of X G a7, b7⟩
    d_is_tide := ⟨_, _, F8, PySem.W.mg_of X G a8, b8⟩
    d_water := ⟨_, _, F9, PySem.W.mg_of X G a9, b9⟩
    d_height_at := ⟨_, _, F10, PySem.W.mg_of X G a10, b10⟩
    d_moments := ⟨_, _, _, _, _, _, _, _, _, l11, c11c, k11, PySem.W.mg_of X G a11, b11⟩
    d_deep := ⟨_, _, F12, PySem.W.mg_of X G a12, ⟨fun s us ws _ h1 h2 => match us, ws, h1, h2 with | [_, _], [_, _], _, _ => .of_eq rfl, fun r1 r2 => r1.append r2⟩⟩
    d_is_point := ⟨_, _, F13, PySem.W.mg_of X G a13, b13⟩
    d_is_track := ⟨_, _, F14, PySem.W.mg_of X G a14, b14⟩
    d_is_gate := ⟨_, _, F15, PySem.W.mg_of X G a15, b15⟩
    d_is_course := ⟨_, _, F16, PySem.W.mg_of X G a16, b16⟩
    d_side := ⟨_, _, F17, PySem.W.mg_of X G a17, b17⟩
    d_is_on := ⟨_, _, F18, PySem.W.mg_of X G a18, b18⟩
    d_all_crossings := ⟨_, _, F19, PySem.W.mg_of X G a19, b19⟩
    d_crossings := ⟨_, _, F20, PySem.W.mg_of X G a20, b20⟩
    d_start_of := ⟨_, _, F21, PySem.W.mg_of X G a21, b21⟩
    d_sailed := ⟨_, _, F22, PySem.W.mg_of X G a22, b22⟩
    d__law_draw := ⟨_, _, F23, PySem.W.mg_of X G a23, b23⟩
    d__law_pick := ⟨_, _, F24, PySem.W.mg_of X G a24, b24⟩
    d__law_which := ⟨_, _, F25, PySem.W.mg_of X G a25, b25⟩
    d__law_ask := ⟨_, _, F26, PySem.W.mg_of X G a26, b26⟩
    d__law_tides := ⟨_, _, F27, PySem.W.mg_of X G a27, b27⟩
    d__law_tracks := ⟨_, _, F28, PySem.W.mg_of X G a28, b28⟩
    w_cc := fun c hc => by
      rcases (show c = 1 ∨ c = 2 ∨ c = 3 ∨ c = 4 ∨ c = 5 ∨ c = 6 by simp [okcW] at hc; omega) with rfl | rfl | rfl | rfl | rfl | rfl
      · exact ⟨wg1, wh1, es1, wd1, wa1, wn, wt, wm1⟩
      · exact ⟨wg2, wh2, es2, wd2, wa2, wn, wt, wm2⟩
      · exact ⟨wg3, wh3, es3, wd3, wa3, wn, wt, wm3⟩
      · exact ⟨wg4, wh4, es4, wd4, wa4, wn, wt, wm4⟩
      · exact ⟨wg5, wh5, es5, wd5, wa5, wn, wt, wm5⟩
      · exact ⟨wg6, wh6, es6, wd6, wa6, wn, wt, wm6⟩
    w_kv := fun c hc => by
      rcases (show c = 1 ∨ c = 2 ∨ c = 3 ∨ c = 4 ∨ c = 5 ∨ c = 6 by simp [okcW] at hc; omega) with rfl | rfl | rfl | rfl | rfl | rfl
      · exact kit_sub (by decide +kernel) wv1
      · exact kit_sub (by decide +kernel) wv2
      · exact kit_sub (by decide +kernel) wv3
      · exact kit_sub (by decide +kernel) wv4
      · exact kit_sub (by decide +kernel) wv5
      · exact kit_sub (by decide +kernel) wv6
    w_ex := fun c hc => by
      rcases (show c = 1 ∨ c = 2 ∨ c = 3 ∨ c = 4 ∨ c = 5 ∨ c = 6 by simp [okcW] at hc; omega) with rfl | rfl | rfl | rfl | rfl | rfl
      · exact PySem.W.exm_ref es0 wd0 et0 ws1_0
      · exact PySem.W.exm_ref es0 wd0 et0 ws2_0
      · exact PySem.W.exm_ref es0 wd0 et0 ws3_0
      · exact PySem.W.exm_ref es0 wd0 et0 ws4_0
      · exact PySem.W.exm_ref es0 wd0 et0 ws5_0
      · exact PySem.W.exm_ref es0 wd0 et0 ws6_0
    w_k1 := fun c hc => by
      rcases (show c = 1 ∨ c = 2 ∨ c = 3 ∨ c = 4 ∨ c = 5 ∨ c = 6 by simp [okcW] at hc; omega) with rfl | rfl | rfl | rfl | rfl | rfl
      · exact kit_ref wd1 et1 ws1_1 ws1_1
      · exact kit_ref wd1 et1 ws2_1 ws2_2
      · exact kit_ref wd1 et1 ws3_1 ws3_3
      · exact kit_ref wd1 et1 ws4_1 ws4_4
      · exact kit_ref wd1 et1 ws5_1 ws5_5
      · exact kit_ref wd1 et1 ws6_1 ws6_6
    w_k2 := fun c hc => by
      rcases (show c = 1 ∨ c = 2 ∨ c = 3 ∨ c = 4 ∨ c = 5 ∨ c = 6 by simp [okcW] at hc; omega) with rfl | rfl | rfl | rfl | rfl | rfl
      · exact kit_ref wd2 et2 ws1_2 ws1_1
      · exact kit_ref wd2 et2 ws2_2 ws2_2
      · exact kit_ref wd2 et2 ws3_2 ws3_3
      · exact kit_ref wd2 et2 ws4_2 ws4_4
      · exact kit_ref wd2 et2 ws5_2 ws5_5
      · exact kit_ref wd2 et2 ws6_2 ws6_6
    w_k3 := fun c hc => by
      rcases (show c = 1 ∨ c = 2 ∨ c = 3 ∨ c = 4 ∨ c = 5 ∨ c = 6 by simp [okcW] at hc; omega) with rfl | rfl | rfl | rfl | rfl | rfl
      · exact kit_ref wd3 et3 ws1_3 ws1_1
      · exact kit_ref wd3 et3 ws2_3 ws2_2
      · exact kit_ref wd3 et3 ws3_3 ws3_3
      · exact kit_ref wd3 et3 ws4_3 ws4_4
      · exact kit_ref wd3 et3 ws5_3 ws5_5
      · exact kit_ref wd3 et3 ws6_3 ws6_6
    w_k4 := fun c hc => by
      rcases (show c = 1 ∨ c = 2 ∨ c = 3 ∨ c = 4 ∨ c = 5 ∨ c = 6 by simp [okcW] at hc; omega) with rfl | rfl | rfl | rfl | rfl | rfl
      · exact kit_ref wd4 et4 ws1_4 ws1_1
      · exact kit_ref wd4 et4 ws2_4 ws2_2
      · exact kit_ref wd4 et4 ws3_4 ws3_3
      · exact kit_ref wd4 et4 ws4_4 ws4_4
      · exact kit_ref wd4 et4 ws5_4 ws5_5
      · exact kit_ref wd4 et4 ws6_4 ws6_6
    w_k5 := fun c hc => by
      rcases (show c = 1 ∨ c = 2 ∨ c = 3 ∨ c = 4 ∨ c = 5 ∨ c = 6 by simp [okcW] at hc; omega) with rfl | rfl | rfl | rfl | rfl | rfl
      · exact kit_ref wd5 et5 ws1_5 ws1_1
      · exact kit_ref wd5 et5 ws2_5 ws2_2
      · exact kit_ref wd5 et5 ws3_5 ws3_3
      · exact kit_ref wd5 et5 ws4_5 ws4_4
      · exact kit_ref wd5 et5 ws5_5 ws5_5
      · exact kit_ref wd5 et5 ws6_5 ws6_6
    w_k6 := fun c hc => by
      rcases (show c = 1 ∨ c = 2 ∨ c = 3 ∨ c = 4 ∨ c = 5 ∨ c = 6 by simp [okcW] at hc; omega) with rfl | rfl | rfl | rfl | rfl | rfl
      · exact kit_ref wd6 et6 ws1_6 ws1_1
      · exact kit_ref wd6 et6 ws2_6 ws2_2
      · exact kit_ref wd6 et6 ws3_6 ws3_3
      · exact kit_ref wd6 et6 ws4_6 ws4_4
      · exact kit_ref wd6 et6 ws5_6 ws5_5
      · exact kit_ref wd6 et6 ws6_6 ws6_6
    w_k7 := fun c hc => by
      rcases (show c = 1 ∨ c = 2 ∨ c = 3 ∨ c = 4 ∨ c = 5 ∨ c = 6 by simp [okcW] at hc; omega) with rfl | rfl | rfl | rfl | rfl | rfl
      · exact kit_ref wd7 et7 ws1_7 ws1_1
      · exact kit_ref wd7 et7 ws2_7 ws2_2
      · exact kit_ref wd7 et7 ws3_7 ws3_3
      · exact kit_ref wd7 et7 ws4_7 ws4_4
      · exact kit_ref wd7 et7 ws5_7 ws5_5
      · exact kit_ref wd7 et7 ws6_7 ws6_6
    w_k8 := fun c hc => by
      rcases (show c = 1 ∨ c = 2 ∨ c = 3 ∨ c = 4 ∨ c = 5 ∨ c = 6 by simp [okcW] at hc; omega) with rfl | rfl | rfl | rfl | rfl | rfl
      · exact kit_ref wd8 et8 ws1_8 ws1_1
      · exact kit_ref wd8 et8 ws2_8 ws2_2
      · exact kit_ref wd8 et8 ws3_8 ws3_3
      · exact kit_ref wd8 et8 ws4_8 ws4_4
      · exact kit_ref wd8 et8 ws5_8 ws5_5
      · exact kit_ref wd8 et8 ws6_8 ws6_6
    w_k9 := fun c hc => by
      rcases (show c = 1 ∨ c = 2 ∨ c = 3 ∨ c = 4 ∨ c = 5 ∨ c = 6 by simp [okcW] at hc; omega) with rfl | rfl | rfl | rfl | rfl | rfl
      · exact kit_ref wd9 et9 ws1_9 ws1_1
      · exact kit_ref wd9 et9 ws2_9 ws2_2
      · exact kit_ref wd9 et9 ws3_9 ws3_3
      · exact kit_ref wd9 et9 ws4_9 ws4_4
      · exact kit_ref wd9 et9 ws5_9 ws5_5
      · exact kit_ref wd9 et9 ws6_9 ws6_6
    w_k10 := fun c hc => by
      rcases (show c = 1 ∨ c = 2 ∨ c = 3 ∨ c = 4 ∨ c = 5 ∨ c = 6 by simp [okcW] at hc; omega) with rfl | rfl | rfl | rfl | rfl | rfl
      · exact kit_ref wd10 et10 ws1_10 ws1_1
      · exact kit_ref wd10 et10 ws2_10 ws2_2
      · exact kit_ref wd10 et10 ws3_10 ws3_3
      · exact kit_ref wd10 et10 ws4_10 ws4_4
      · exact kit_ref wd10 et10 ws5_10 ws5_5
      · exact kit_ref wd10 et10 ws6_10 ws6_6
    w_k11 := fun c hc => by
      rcases (show c = 1 ∨ c = 2 ∨ c = 3 ∨ c = 4 ∨ c = 5 ∨ c = 6 by simp [okcW] at hc; omega) with rfl | rfl | rfl | rfl | rfl | rfl
      · exact kit_ref wd11 et11 ws1_11 ws1_1
      · exact kit_ref wd11 et11 ws2_11 ws2_2
      · exact kit_ref wd11 et11 ws3_11 ws3_3
      · exact kit_ref wd11 et11 ws4_11 ws4_4
      · exact kit_ref wd11 et11 ws5_11 ws5_5
      · exact kit_ref wd11 et11 ws6_11 ws6_6
    w_k12 := fun c hc => by
      rcases (show c = 1 ∨ c = 2 ∨ c = 3 ∨ c = 4 ∨ c = 5 ∨ c = 6 by simp [okcW] at hc; omega) with rfl | rfl | rfl | rfl | rfl | rfl
      · exact kit_ref wd12 et12 ws1_12 ws1_1
      · exact kit_ref wd12 et12 ws2_12 ws2_2
      · exact kit_ref wd12 et12 ws3_12 ws3_3
      · exact kit_ref wd12 et12 ws4_12 ws4_4
      · exact kit_ref wd12 et12 ws5_12 ws5_5
      · exact kit_ref wd12 et12 ws6_12 ws6_6
    w_k13 := fun c hc => by
      rcases (show c = 1 ∨ c = 2 ∨ c = 3 ∨ c = 4 ∨ c = 5 ∨ c = 6 by simp [okcW] at hc; omega) with rfl | rfl | rfl | rfl | rfl | rfl
      · exact kit_ref wd13 et13 ws1_13 ws1_1
      · exact kit_ref wd13 et13 ws2_13 ws2_2
      · exact kit_ref wd13 et13 ws3_13 ws3_3
      · exact kit_ref wd13 et13 ws4_13 ws4_4
      · exact kit_ref wd13 et13 ws5_13 ws5_5
      · exact kit_ref wd13 et13 ws6_13 ws6_6
    w_k14 := fun c hc => by
      rcases (show c = 1 ∨ c = 2 ∨ c = 3 ∨ c = 4 ∨ c = 5 ∨ c = 6 by simp [okcW] at hc; omega) with rfl | rfl | rfl | rfl | rfl | rfl
      · exact kit_ref wd14 et14 ws1_14 ws1_1
      · exact kit_ref wd14 et14 ws2_14 ws2_2
      · exact kit_ref wd14 et14 ws3_14 ws3_3
      · exact kit_ref wd14 et14 ws4_14 ws4_4
      · exact kit_ref wd14 et14 ws5_14 ws5_5
      · exact kit_ref wd14 et14 ws6_14 ws6_6
    w_k15 := fun c hc => by
      rcases (show c = 1 ∨ c = 2 ∨ c = 3 ∨ c = 4 ∨ c = 5 ∨ c = 6 by simp [okcW] at hc; omega) with rfl | rfl | rfl | rfl | rfl | rfl
      · exact kit_ref wd15 et15 ws1_15 ws1_1
      · exact kit_ref wd15 et15 ws2_15 ws2_2
      · exact kit_ref wd15 et15 ws3_15 ws3_3
      · exact kit_ref wd15 et15 ws4_15 ws4_4
      · exact kit_ref wd15 et15 ws5_15 ws5_5
      · exact kit_ref wd15 et15 ws6_15 ws6_6
    w_k16 := fun c hc => by
      rcases (show c = 1 ∨ c = 2 ∨ c = 3 ∨ c = 4 ∨ c = 5 ∨ c = 6 by simp [okcW] at hc; omega) with rfl | rfl | rfl | rfl | rfl | rfl
      · exact kit_ref wd16 et16 ws1_16 ws1_1
      · exact kit_ref wd16 et16 ws2_16 ws2_2
      · exact kit_ref wd16 et16 ws3_16 ws3_3
      · exact kit_ref wd16 et16 ws4_16 ws4_4
      · exact kit_ref wd16 et16 ws5_16 ws5_5
      · exact kit_ref wd16 et16 ws6_16 ws6_6
    w_k17 := fun c hc => by
      rcases (show c = 1 ∨ c = 2 ∨ c = 3 ∨ c = 4 ∨ c = 5 ∨ c = 6 by simp [okcW] at hc; omega) with rfl | rfl | rfl | rfl | rfl | rfl
      · exact kit_ref wd17 et17 ws1_17 ws1_1
      · exact kit_ref wd17 et17 ws2_17 ws2_2
      · exact kit_ref wd17 et17 ws3_17 ws3_3
      · exact kit_ref wd17 et17 ws4_17 ws4_4
      · exact kit_ref wd17 et17 ws5_17 ws5_5
      · exact kit_ref wd17 et17 ws6_17 ws6_6
    w_k18 := fun c hc => by
      rcases (show c = 1 ∨ c = 2 ∨ c = 3 ∨ c = 4 ∨ c = 5 ∨ c = 6 by simp [okcW] at hc; omega) with rfl | rfl | rfl | rfl | rfl | rfl
      · exact kit_ref wd18 et18 ws1_18 ws1_1
      · exact kit_ref wd18 et18 ws2_18 ws2_2
      · exact kit_ref wd18 et18 ws3_18 ws3_3
      · exact kit_ref wd18 et18 ws4_18 ws4_4
      · exact kit_ref wd18 et18 ws5_18 ws5_5
      · exact kit_ref wd18 et18 ws6_18 ws6_6
    w_k19 := fun c hc => by
      rcases (show c = 1 ∨ c = 2 ∨ c = 3 ∨ c = 4 ∨ c = 5 ∨ c = 6 by simp [okcW] at hc; omega) with rfl | rfl | rfl | rfl | rfl | rfl
      · exact kit_ref wd19 et19 ws1_19 ws1_1
      · exact kit_ref wd19 et19 ws2_19 ws2_2
      · exact kit_ref wd19 et19 ws3_19 ws3_3
      · exact kit_ref wd19 et19 ws4_19 ws4_4
      · exact kit_ref wd19 et19 ws5_19 ws5_5
      · exact kit_ref wd19 et19 ws6_19 ws6_6
    w_k20 := fun c hc => by
      rcases (show c = 1 ∨ c = 2 ∨ c = 3 ∨ c = 4 ∨ c = 5 ∨ c = 6 by simp [okcW] at hc; omega) with rfl | rfl | rfl | rfl | rfl | rfl
      · exact kit_ref wd20 et20 ws1_20 ws1_1
      · exact kit_ref wd20 et20 ws2_20 ws2_2
      · exact kit_ref wd20 et20 ws3_20 ws3_3
      · exact kit_ref wd20 et20 ws4_20 ws4_4
      · exact kit_ref wd20 et20 ws5_20 ws5_5
      · exact kit_ref wd20 et20 ws6_20 ws6_6
    w_k21 := fun c hc => by
      rcases (show c = 1 ∨ c = 2 ∨ c = 3 ∨ c = 4 ∨ c = 5 ∨ c = 6 by simp [okcW] at hc; omega) with rfl | rfl | rfl | rfl | rfl | rfl
      · exact kit_ref wd21 et21 ws1_21 ws1_1
      · exact kit_ref wd21 et21 ws2_21 ws2_2
      · exact kit_ref wd21 et21 ws3_21 ws3_3
      · exact kit_ref wd21 et21 ws4_21 ws4_4
      · exact kit_ref wd21 et21 ws5_21 ws5_5
      · exact kit_ref wd21 et21 ws6_21 ws6_6 }
  exact ⟨PySem.W.fnOf "law" "law" (defArgs s_law) (defBody s_law) (defScope s_law) .none kV29 dc29 pm29 an29 cd29 ct29, lc, lp, tn, tp, fun s v => .of_eq rfl, fun base _ _ TB => ok_law (cls := fun n => if n = 0 then c0 else if n = 1 then c1 else if n = 2 then c2 else if n = 3 then c3 else if n = 4 then c4 else if n = 5 then c5 else if n = 6 then c6 else if n = 7 then c7 else if n = 8 then c8 else if n = 9 then c9 else if n = 10 then c10 else if n = 11 then c11 else if n = 12 then c12 else if n = 13 then c13 else if n = 14 then c14 else if n = 15 then c15 else if n = 16 then c16 else if n = 17 then c17 else if n = 18 then c18 else if n = 19 then c19 else if n = 20 then c20 else if n = 21 then c21 else if n = 900 then 1 else if n = 1000 then lp else if n = 1001 then 1 else if n = 2000 then lc else 0) (B base TB) F29 (fun ns hl => law_true ns hl)⟩
theorem walk {l : PySem.W.OpenLaw} {q : Program} {loose : List Str} {XP : (Str → Option Value) → Heap → Prop} {YP : World → Heap → Prop} {d dm : DefRec} {K : Params → PySem.W.Frag} (hn : l.most = some 63) (hdf : d.params.defaults = [])
    (hrec : (recsOf q).find? (fun e => e.name == ("moments" : Str)) = some dm)
    (hY : ∀ (w : World) (h : Heap), YP w h → (K w.params).In h)
    (F : ∀ (w : World) (mg : Str → Option Value) (fa : Addr) (h : Heap), (K w.params).In h → h.Ns mainGlobals mg → mg d.name = some (.ref fa) →
      ∃ (fd : FuncData) (c P : Addr), PySem.W.tabIn (K w.params) "moments" = some (c, P) ∧ (K w.params).lookup P = none ∧ (∀ (s : Shared) (u : Value), BindsTo s fd ⟨[u], []⟩ [("_law_script", u)]) ∧ ∀ base : Heap, (K w.params).In base → base.Ns mainGlobals mg → TabB base mg c P → FnOk l.prog w (K w.params) mg base (L2.CX l.prog w) 8 fa fd ["_law_script"] (spLawT (K w.params) [(P, lamQ 1)])) :
    PySem.W.WalkO q loose XP YP l.row.toRowW d [] (fun f vs => PySem.call f vs) :=
  walk_ofMk (n := 63) (k := 8) (x := "_law_script") (CX := fun w => L2.CX l.prog w) hn (by decide) hdf ⟨rfl, by decide, by decide⟩ hrec hY F (by decide) fun _ _ _ _ _ z => by
    obtain ⟨_, _, _, _, _, _, _, _, _, _, _, _, z⟩ := z
    exact z
end Pm
open PySem PySem.W PyProof.Rows
set_option maxRecDepth 100000 in
set_option maxHeartbeats 0 in
theorem PySem.Challenge.cw_racerows_k04_water_refused_holds : PySem.Challenge.rw_racerows_k04_water_refused.Holds := by
  w_on; o_law; k_head; (case hw => w_witness2)
  k_fill
  refine Pm.walk (l := PySem.Challenge.rw_racerows_k04_water_refused) rfl rfl rfl (fun w h Y => PySem.W.km_in_of Y) ?F
  case F =>
    intro w mg fa h KX G hmg
    refine' Pm.all_mk KX G hmg ?ea0 ?ex0 ?ek0 ?es0 ?et0 ?ea1 ?ex1 ?ek1 ?es1 ?et1 ?ea2 ?ex2 ?ek2 ?es2 ?et2 ?ea3 ?ex3 ?ek3 ?es3 ?et3 ?ea4 ?ex4 ?ek4 ?es4 ?et4 ?ea5 ?ex5 ?ek5 ?es5 ?et5 ?ea6 ?ex6 ?ek6 ?es6 ?et6 ?ea7 ?ex7 ?ek7 ?es7 ?et7 ?ea8 ?ex8 ?ek8 ?es8 ?et8 ?ea9 ?ex9 ?ek9 ?es9 ?et9 ?ea10 ?ex10 ?ek10 ?es10 ?et10 ?ea11 ?ex11 ?ek11 ?es11 ?et11 ?ea12 ?ex12 ?ek12 ?es12 ?et12 ?ea13 ?ex13 ?ek13 ?es13 ?et13 ?ea14 ?ex14 ?ek14 ?es14 ?et14 ?ea15 ?ex15 ?ek15 ?es15 ?et15 ?ea16 ?ex16 ?ek16 ?es16 ?et16 ?ea17 ?ex17 ?ek17 ?es17 ?et17 ?ea18 ?ex18 ?ek18 ?es18 ?et18 ?ea19 ?ex19 ?ek19 ?es19 ?et19 ?ea20 ?ex20 ?ek20 ?es20 ?et20 ?ea21 ?ex21 ?ek21 ?es21 ?et21 ?wd0 ?wd1 ?wd2 ?wd3 ?wd4 ?wd5 ?wd6 ?wd7 ?wd8 ?wd9 ?wd10 ?wd11 ?wd12 ?wd13 ?wd14 ?wd15 ?wd16 ?wd17 ?wd18 ?wd19 ?wd20 ?wd21 ?wn ?wt ?ws1_0 ?ws1_1 ?ws1_2 ?ws1_3 ?ws1_4 ?ws1_5 ?ws1_6 ?ws1_7 ?ws1_8 ?ws1_9 ?ws1_10 ?ws1_11 ?ws1_12 ?ws1_13 ?ws1_14 ?ws1_15 ?ws1_16 ?ws1_17 ?ws1_18 ?ws1_19 ?ws1_20 ?ws1_21 ?wv1 ?wg1 ?wh1 ?wa1 ?wm1 ?ws2_0 ?ws2_1 ?ws2_2 ?ws2_3 ?ws2_4 ?ws2_5 ?ws2_6 ?ws2_7 ?ws2_8 ?ws2_9 ?ws2_10 ?ws2_11 ?ws2_12 ?ws2_13 ?ws2_14 ?ws2_15 ?ws2_16 ?ws2_17 ?ws2_18 ?ws2_19 ?ws2_20 ?ws2_21 ?wv2 ?wg2 ?wh2 ?wa2 ?wm2 ?ws3_0 ?ws3_1 ?ws3_2 ?ws3_3 ?ws3_4 ?ws3_5 ?ws3_6 ?ws3_7 ?ws3_8 ?ws3_9 ?ws3_10 ?ws3_11 ?ws3_12 ?ws3_13 ?ws3_14 ?ws3_15 ?ws3_16 ?ws3_17 ?ws3_18 ?ws3_19 ?ws3_20 ?ws3_21 ?wv3 ?wg3 ?wh3 ?wa3 ?wm3 ?ws4_0 ?ws4_1 ?ws4_2 ?ws4_3 ?ws4_4 ?ws4_5 ?ws4_6 ?ws4_7 ?ws4_8 ?ws4_9 ?ws4_10 ?ws4_11 ?ws4_12 ?ws4_13 ?ws4_14 ?ws4_15 ?ws4_16 ?ws4_17 ?ws4_18 ?ws4_19 ?ws4_20 ?ws4_21 ?wv4 ?wg4 ?wh4 ?wa4 ?wm4 ?ws5_0 ?ws5_1 ?ws5_2 ?ws5_3 ?ws5_4 ?ws5_5 ?ws5_6 ?ws5_7 ?ws5_8 ?ws5_9 ?ws5_10 ?ws5_11 ?ws5_12 ?ws5_13 ?ws5_14 ?ws5_15 ?ws5_16 ?ws5_17 ?ws5_18 ?ws5_19 ?ws5_20 ?ws5_21 ?wv5 ?wg5 ?wh5 ?wa5 ?wm5 ?ws6_0 ?ws6_1 ?ws6_2 ?ws6_3 ?ws6_4 ?ws6_5 ?ws6_6 ?ws6_7 ?ws6_8 ?ws6_9 ?ws6_10 ?ws6_11 ?ws6_12 ?ws6_13 ?ws6_14 ?ws6_15 ?ws6_16 ?ws6_17 ?ws6_18 ?ws6_19 ?ws6_20 ?ws6_21 ?wv6 ?wg6 ?wh6 ?wa6 ?wm6 ?z0 ?z1 ?z2 ?z3 ?z4 ?z5 ?z6 ?z7 ?z8 ?z9 ?z10 ?z11 ?ga0 ?ga1 ?ga2 ?a0 ?l0 ?c0c ?k0 ?a1 ?l1 ?c1c ?k1 ?a2 ?l2 ?c2c ?k2 ?a3 ?l3 ?c3c ?k3 ?a4 ?l4 ?c4c ?k4 ?a5 ?l5 ?c5c ?k5 ?a6 ?l6 ?c6c ?k6 ?a7 ?l7 ?c7c ?k7 ?a8 ?l8 ?c8c ?k8 ?a9 ?l9 ?c9c ?k9 ?a10 ?l10 ?c10c ?k10 ?a11 ?l11 ?c11c ?k11 ?a12 ?l12 ?c12c ?k12 ?a13 ?l13 ?c13c ?k13 ?a14 ?l14 ?c14c ?k14 ?a15 ?l15 ?c15c ?k15 ?a16 ?l16 ?c16c ?k16 ?a17 ?l17 ?c17c ?k17 ?a18 ?l18 ?c18c ?k18 ?a19 ?l19 ?c19c ?k19 ?a20 ?l20 ?c20c ?k20 ?a21 ?l21 ?c21c ?k21 ?a22 ?l22 ?c22c ?k22 ?a23 ?l23 ?c23c ?k23 ?a24 ?l24 ?c24c ?k24 ?a25 ?l25 ?c25c ?k25 ?a26 ?l26 ?c26c ?k26 ?a27 ?l27 ?c27c ?k27 ?a28 ?l28 ?c28c ?k28 ?a29 ?l29 ?c29c ?k29 ?tn ?tp
    (case ea0 => k_is)
    (case ex0 => k_exc)
    (case ek0 => k_is)
    (case es0 => k_is)
    (case et0 => k_is)
    (case ea1 => k_is)
    (case ex1 => k_exc)
    (case ek1 => k_is)
    (case es1 => k_is)
    (case et1 => k_is)
    (case ea2 => k_is)
    (case ex2 => k_exc)
    (case ek2 => k_is)
    (case es2 => k_is)
    (case et2 => k_is)
    (case ea3 => k_is)
    (case ex3 => k_exc)
    (case ek3 => k_is)
    (case es3 => k_is)
    (case et3 => k_is)
    (case ea4 => k_is)
    (case ex4 => k_exc)
    (case ek4 => k_is)
    (case es4 => k_is)
    (case et4 => k_is)
    (case ea5 => k_is)
    (case ex5 => k_exc)
    (case ek5 => k_is)
    (case es5 => k_is)
    (case et5 => k_is)
    (case ea6 => k_is)
    (case ex6 => k_exc)
    (case ek6 => k_is)
    (case es6 => k_is)
    (case et6 => k_is)
    (case ea7 => k_is)
    (case ex7 => k_exc)
    (case ek7 => k_is)
    (case es7 => k_is)
    (case et7 => k_is)
    (case ea8 => k_is)
    (case ex8 => k_exc)
    (case ek8 => k_is)
    (case es8 => k_is)
    (case et8 => k_is)
    (case ea9 => k_is)
    (case ex9 => k_exc)
    (case ek9 => k_is)
    (case es9 => k_is)
    (case et9 => k_is)
    (case ea10 => k_is)
    (case ex10 => k_exc)
    (case ek10 => k_is)
    (case es10 => k_is)
    (case et10 => k_is)
    (case ea11 => k_is)
    (case ex11 => k_exc)
    (case ek11 => k_is)
    (case es11 => k_is)
    (case et11 => k_is)
    (case ea12 => k_is)
    (case ex12 => k_exc)
    (case ek12 => k_is)
    (case es12 => k_is)
    (case et12 => k_is)
    (case ea13 => k_is)
    (case ex13 => k_exc)
    (case ek13 => k_is)
    (case es13 => k_is)
    (case et13 => k_is)
    (case ea14 => k_is)
    (case ex14 => k_exc)
    (case ek14 => k_is)
    (case es14 => k_is)
    (case et14 => k_is)
    (case ea15 => k_is)
    (case ex15 => k_exc)
    (case ek15 => k_is)
    (case es15 => k_is)
    (case et15 => k_is)
    (case ea16 => k_is)
    (case ex16 => k_exc)
    (case ek16 => k_is)
    (case es16 => k_is)
    (case et16 => k_is)
    (case ea17 => k_is)
    (case ex17 => k_exc)
    (case ek17 => k_is)
    (case es17 => k_is)
    (case et17 => k_is)
    (case ea18 => k_is)
    (case ex18 => k_exc)
    (case ek18 => k_is)
    (case es18 => k_is)
    (case et18 => k_is)
    (case ea19 => k_is)
    (case ex19 => k_exc)
    (case ek19 => k_is)
    (case es19 => k_is)
    (case et19 => k_is)
    (case ea20 => k_is)
    (case ex20 => k_exc)
    (case ek20 => k_is)
    (case es20 => k_is)
    (case et20 => k_is)
    (case ea21 => k_is)
    (case ex21 => k_exc)
    (case ek21 => k_is)
    (case es21 => k_is)
    (case et21 => k_is)
    (case wd0 => k_is)
    (case wd1 => k_is)
    (case wd2 => k_is)
    (case wd3 => k_is)
    (case wd4 => k_is)
    (case wd5 => k_is)
    (case wd6 => k_is)
    (case wd7 => k_is)
    (case wd8 => k_is)
    (case wd9 => k_is)
    (case wd10 => k_is)
    (case wd11 => k_is)
    (case wd12 => k_is)
    (case wd13 => k_is)
    (case wd14 => k_is)
    (case wd15 => k_is)
    (case wd16 => k_is)
    (case wd17 => k_is)
    (case wd18 => k_is)
    (case wd19 => k_is)
    (case wd20 => k_is)
    (case wd21 => k_is)
    (case wn => k_is)
    (case wt => k_is)
    (case ws1_0 => k_is)
    (case ws1_1 => k_is)
    (case ws1_2 => k_is)
    (case ws1_3 => k_is)
    (case ws1_4 => k_is)
    (case ws1_5 => k_is)
    (case ws1_6 => k_is)
    (case ws1_7 => k_is)
    (case ws1_8 => k_is)
    (case ws1_9 => k_is)
    (case ws1_10 => k_is)
    (case ws1_11 => k_is)
    (case ws1_12 => k_is)
    (case ws1_13 => k_is)
    (case ws1_14 => k_is)
    (case ws1_15 => k_is)
    (case ws1_16 => k_is)
    (case ws1_17 => k_is)
    (case ws1_18 => k_is)
    (case ws1_19 => k_is)
    (case ws1_20 => k_is)
    (case ws1_21 => k_is)
    (case wv1 => k_is)
    (case wg1 => k_is)
    (case wh1 => k_is)
    (case wa1 => k_is)
    (case wm1 => k_is)
    (case ws2_0 => k_is)
    (case ws2_1 => k_is)
    (case ws2_2 => k_is)
    (case ws2_3 => k_is)
    (case ws2_4 => k_is)
    (case ws2_5 => k_is)
    (case ws2_6 => k_is)
    (case ws2_7 => k_is)
    (case ws2_8 => k_is)
    (case ws2_9 => k_is)
    (case ws2_10 => k_is)
    (case ws2_11 => k_is)
    (case ws2_12 => k_is)
    (case ws2_13 => k_is)
    (case ws2_14 => k_is)
    (case ws2_15 => k_is)
    (case ws2_16 => k_is)
    (case ws2_17 => k_is)
    (case ws2_18 => k_is)
    (case ws2_19 => k_is)
    (case ws2_20 => k_is)
    (case ws2_21 => k_is)
    (case wv2 => k_is)
    (case wg2 => k_is)
    (case wh2 => k_is)
    (case wa2 => k_is)
    (case wm2 => k_is)
    (case ws3_0 => k_is)
    (case ws3_1 => k_is)
    (case ws3_2 => k_is)
    (case ws3_3 => k_is)
    (case ws3_4 => k_is)
    (case ws3_5 => k_is)
    (case ws3_6 => k_is)
    (case ws3_7 => k_is)
    (case ws3_8 => k_is)
    (case ws3_9 => k_is)
    (case ws3_10 => k_is)
    (case ws3_11 => k_is)
    (case ws3_12 => k_is)
    (case ws3_13 => k_is)
    (case ws3_14 => k_is)
    (case ws3_15 => k_is)
    (case ws3_16 => k_is)
    (case ws3_17 => k_is)
    (case ws3_18 => k_is)
    (case ws3_19 => k_is)
    (case ws3_20 => k_is)
    (case ws3_21 => k_is)
    (case wv3 => k_is)
    (case wg3 => k_is)
    (case wh3 => k_is)
    (case wa3 => k_is)
    (case wm3 => k_is)
    (case ws4_0 => k_is)
    (case ws4_1 => k_is)
    (case ws4_2 => k_is)
    (case ws4_3 => k_is)
    (case ws4_4 => k_is)
    (case ws4_5 => k_is)
    (case ws4_6 => k_is)
    (case ws4_7 => k_is)
    (case ws4_8 => k_is)
    (case ws4_9 => k_is)
    (case ws4_10 => k_is)
    (case ws4_11 => k_is)
    (case ws4_12 => k_is)
    (case ws4_13 => k_is)
    (case ws4_14 => k_is)
    (case ws4_15 => k_is)
    (case ws4_16 => k_is)
    (case ws4_17 => k_is)
    (case ws4_18 => k_is)
    (case ws4_19 => k_is)
    (case ws4_20 => k_is)
    (case ws4_21 => k_is)
    (case wv4 => k_is)
    (case wg4 => k_is)
    (case wh4 => k_is)
    (case wa4 => k_is)
    (case wm4 => k_is)
    (case ws5_0 => k_is)
    (case ws5_1 => k_is)
    (case ws5_2 => k_is)
    (case ws5_3 => k_is)
    (case ws5_4 => k_is)
    (case ws5_5 => k_is)
    (case ws5_6 => k_is)
    (case ws5_7 => k_is)
    (case ws5_8 => k_is)
    (case ws5_9 => k_is)
    (case ws5_10 => k_is)
    (case ws5_11 => k_is)
    (case ws5_12 => k_is)
    (case ws5_13 => k_is)
    (case ws5_14 => k_is)
    (case ws5_15 => k_is)
    (case ws5_16 => k_is)
    (case ws5_17 => k_is)
    (case ws5_18 => k_is)
    (case ws5_19 => k_is)
    (case ws5_20 => k_is)
    (case ws5_21 => k_is)
    (case wv5 => k_is)
    (case wg5 => k_is)
    (case wh5 => k_is)
    (case wa5 => k_is)
    (case wm5 => k_is)
    (case ws6_0 => k_is)
    (case ws6_1 => k_is)
    (case ws6_2 => k_is)
    (case ws6_3 => k_is)
    (case ws6_4 => k_is)
    (case ws6_5 => k_is)
    (case ws6_6 => k_is)
    (case ws6_7 => k_is)
    (case ws6_8 => k_is)
    (case ws6_9 => k_is)
    (case ws6_10 => k_is)
    (case ws6_11 => k_is)
    (case ws6_12 => k_is)
    (case ws6_13 => k_is)
    (case ws6_14 => k_is)
    (case ws6_15 => k_is)
    (case ws6_16 => k_is)
    (case ws6_17 => k_is)
    (case ws6_18 => k_is)
    (case ws6_19 => k_is)
    (case ws6_20 => k_is)
    (case ws6_21 => k_is)
    (case wv6 => k_is)
    (case wg6 => k_is)
    (case wh6 => k_is)
    (case wa6 => k_is)
    (case wm6 => k_is)
    (case z0 => k_is)
    (case z1 => k_is)
    (case z2 => k_is)
    (case z3 => k_is)
    (case z4 => k_is)
    (case z5 => k_is)
    (case z6 => k_is)
    (case z7 => k_is)
    (case z8 => k_is)
    (case z9 => k_is)
    (case z10 => k_is)
    (case z11 => k_is)
    (case ga0 => k_is)
    (case ga1 => k_is)
    (case ga2 => k_is)
    (case a0 => k_is)
    (case l0 => k_is)
    (case c0c => k_is)
    (case k0 => k_is)
    (case a1 => k_is)
    (case l1 => k_is)
    (case c1c => k_is)
    (case k1 => k_is)
    (case a2 => k_is)
    (case l2 => k_is)
    (case c2c => k_is)
    (case k2 => k_is)
    (case a3 => k_is)
    (case l3 => k_is)
    (case c3c => k_is)
    (case k3 => k_is)
    (case a4 => k_is)
    (case l4 => k_is)
    (case c4c => k_is)
    (case k4 => k_is)
    (case a5 => k_is)
    (case l5 => k_is)
    (case c5c => k_is)
    (case k5 => k_is)
    (case a6 => k_is)
    (case l6 => k_is)
    (case c6c => k_is)
    (case k6 => k_is)
    (case a7 => k_is)
    (case l7 => k_is)
    (case c7c => k_is)
    (case k7 => k_is)
    (case a8 => k_is)
    (case l8 => k_is)
    (case c8c => k_is)
    (case k8 => k_is)
    (case a9 => k_is)
    (case l9 => k_is)
    (case c9c => k_is)
    (case k9 => k_is)
    (case a10 => k_is)
    (case l10 => k_is)
    (case c10c => k_is)
    (case k10 => k_is)
    (case a11 => k_is)
    (case l11 => k_is)
    (case c11c => k_is)
    (case k11 => k_is)
    (case a12 => k_is)
    (case l12 => k_is)
    (case c12c => k_is)
    (case k12 => k_is)
    (case a13 => k_is)
    (case l13 => k_is)
    (case c13c => k_is)
    (case k13 => k_is)
    (case a14 => k_is)
    (case l14 => k_is)
    (case c14c => k_is)
    (case k14 => k_is)
    (case a15 => k_is)
    (case l15 => k_is)
    (case c15c => k_is)
    (case k15 => k_is)
    (case a16 => k_is)
    (case l16 => k_is)
    (case c16c => k_is)
    (case k16 => k_is)
    (case a17 => k_is)
    (case l17 => k_is)
    (case c17c => k_is)
    (case k17 => k_is)
    (case a18 => k_is)
    (case l18 => k_is)
    (case c18c => k_is)
    (case k18 => k_is)
    (case a19 => k_is)
    (case l19 => k_is)
    (case c19c => k_is)
    (case k19 => k_is)
    (case a20 => k_is)
    (case l20 => k_is)
    (case c20c => k_is)
    (case k20 => k_is)
    (case a21 => k_is)
    (case l21 => k_is)
    (case c21c => k_is)
    (case k21 => k_is)
    (case a22 => k_is)
    (case l22 => k_is)
    (case c22c => k_is)
    (case k22 => k_is)
    (case a23 => k_is)
    (case l23 => k_is)
    (case c23c => k_is)
    (case k23 => k_is)
    (case a24 => k_is)
    (case l24 => k_is)
    (case c24c => k_is)
    (case k24 => k_is)
    (case a25 => k_is)
    (case l25 => k_is)
    (case c25c => k_is)
    (case k25 => k_is)
    (case a26 => k_is)
    (case l26 => k_is)
    (case c26c => k_is)
    (case k26 => k_is)
    (case a27 => k_is)
    (case l27 => k_is)
    (case c27c => k_is)
    (case k27 => k_is)
    (case a28 => k_is)
    (case l28 => k_is)
    (case c28c => k_is)
    (case k28 => k_is)
    (case a29 => k_is)
    (case l29 => k_is)
    (case c29c => k_is)
    (case k29 => k_is)
    (case tn => first | exact rfl | k_is)
    (case tp => first | exact rfl | k_is)
