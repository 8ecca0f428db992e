import PyProof.Rows.All
import HandS.ForMost
import HandS.ForExc
import HandS.Walk
import HandS.Zip
import HandS.IsInst
import HandS.Wide
import HandS.Flow
import HandS.Style
import HandS.DeepEq
import HandS.Deep
import PyProof.Rows.SeqCalls
import PyProof.Rows.SeqGen
import KE.KSortedM
import HandS.TryOnly
import HandS.Small
import HandS.ExcIs
import HandS.HotCalls
import PySem.Challenge.RW_racerows_k10_rights_refused
set_option Elab.async false
set_option linter.all false
set_option maxRecDepth 100000
/-! The pure layer: values without a heap (PyData), a state of slots, and what a reading of the hand layer has to do with it. -/
namespace Pm
open PySem L2

abbrev D := PyData
inductive Slot where
  | un | fz (d : D) | ol (xs : List D) | od (kvs : List (D × D)) | pt (n : Nat) | bw (xs : List D)
def Slot.owned : Slot → Bool
  | .ol _ => true
  | .od _ => true
  | _ => false
structure S (T : Type) where
  env : List Slot
  t : T
inductive Res (T α : Type) where
  | ok (a : α) (s : S T)
  | exc (c : Nat) (s : S T)
  | stuck
abbrev M (T α : Type) := S T → Res T α
def mBind {T α β : Type} (m : M T α) (f : α → M T β) : M T β := fun s => match m s with
  | .ok a s' => f a s'
  | .exc c s' => .exc c s'
  | .stuck => .stuck
def mRet {T α : Type} (a : α) : M T α := fun s => .ok a s
def mLift {T α : Type} (o : Option α) : M T α := fun s => match o with
  | some a => .ok a s
  | none => .stuck

/-! ### what a value of the abstract heap stands for -/
def kD : Key → D
  | .inl i => .int i
  | .inr x => .str x
mutual
inductive Rep (K : PySem.W.Frag) (F : Hp) : V → D → Prop
  | non : Rep K F .non .none
  | bl (b : Bool) : Rep K F (.bl b) (.bool b)
  | int (i : Int) : Rep K F (.int i) (.int i)
  | str (x : Str) : Rep K F (.str x) (.str x)
  | lst {a : Addr} {xs : List V} {ds : List D} : F a = some (.lst xs) → RepL K F xs ds → Rep K F (.ref a) (.list ds)
  | tup {a : Addr} {xs : List V} {ds : List D} : SqT K F a xs → RepL K F xs ds → Rep K F (.ref a) (.tuple ds)
  | dic {a : Addr} {ks : List (Key × V)} {ds : List (D × D)} : F a = some (.dK ks) → RepKV K F ks ds → Rep K F (.ref a) (.dict ds)
inductive RepL (K : PySem.W.Frag) (F : Hp) : List V → List D → Prop
  | nil : RepL K F [] []
  | cons {v : V} {vs : List V} {d : D} {ds : List D} : Rep K F v d → RepL K F vs ds → RepL K F (v :: vs) (d :: ds)
inductive RepKV (K : PySem.W.Frag) (F : Hp) : List (Key × V) → List (D × D) → Prop
  | nil : RepKV K F [] []
  | cons {k : Key} {v : V} {ks : List (Key × V)} {d : D} {ds : List (D × D)} : Rep K F v d → RepKV K F ks ds → RepKV K F ((k, v) :: ks) ((kD k, d) :: ds)
end
theorem sqT_mono {K : PySem.W.Frag} {F F' : Hp} {a : Addr} {xs : List V} (e : Same F F') (h : SqT K F a xs) : SqT K F' a xs := by
  rcases h with (h | ⟨o, h⟩) | h
  · exact .inl (.inl (e _ _ h))
  · exact .inl (.inr ⟨o, e _ _ h⟩)
  · exact .inr h
section
variable {K : PySem.W.Frag} {F F' : Hp}
mutual
theorem Rep.mono (e : Same F F') : ∀ {v : V} {d : D}, Rep K F v d → Rep K F' v d
  | _, _, .non => .non
  | _, _, .bl b => .bl b
  | _, _, .int i => .int i
  | _, _, .str x => .str x
  | _, _, .lst h r => .lst (e _ _ h) (RepL.mono e r)
  | _, _, .tup h r => .tup (sqT_mono e h) (RepL.mono e r)
  | _, _, .dic h r => .dic (e _ _ h) (RepKV.mono e r)
theorem RepL.mono (e : Same F F') : ∀ {v : List V} {d : List D}, RepL K F v d → RepL K F' v d
  | _, _, .nil => .nil
  | _, _, .cons h r => .cons (Rep.mono e h) (RepL.mono e r)
theorem RepKV.mono (e : Same F F') : ∀ {v : List (Key × V)} {d : List (D × D)}, RepKV K F v d → RepKV K F' v d
  | _, _, .nil => .nil
  | _, _, .cons h r => .cons (Rep.mono e h) (RepKV.mono e r)
end
theorem RepL.length : ∀ {v : List V} {d : List D}, RepL K F v d → v.length = d.length
  | _, _, .nil => rfl
  | _, _, .cons _ r => congrArg Nat.succ r.length
theorem RepL.get : ∀ {v : List V} {d : List D} {i : Nat} {x : D}, RepL K F v d → d[i]? = some x → ∃ y, v[i]? = some y ∧ Rep K F y x
  | _, _, _, _, .nil, h => by simp at h
  | _, _, 0, _, .cons h _, e => by simp at e; subst e; exact ⟨_, rfl, h⟩
  | _, _, i + 1, x, .cons _ r, e => by
    obtain ⟨y, h1, h2⟩ := RepL.get (i := i) (x := x) r (by simpa using e)
    exact ⟨y, by simpa using h1, h2⟩
theorem RepL.get' : ∀ {v : List V} {d : List D} {i : Nat} {y : V}, RepL K F v d → v[i]? = some y → ∃ x, d[i]? = some x ∧ Rep K F y x
  | _, _, _, _, .nil, h => by simp at h
  | _, _, 0, _, .cons h _, e => by simp at e; subst e; exact ⟨_, rfl, h⟩
  | _, _, i + 1, x, .cons _ r, e => by
    obtain ⟨y, h1, h2⟩ := RepL.get' (i := i) (y := x) r (by simpa using e)
    exact ⟨y, by simpa using h1, h2⟩
theorem RepL.append : ∀ {v w : List V} {d e : List D}, RepL K F v d → RepL K F w e → RepL K F (v ++ w) (d ++ e)
  | _, _, _, _, .nil, s => s
  | _, _, _, _, .cons h r, s => .cons h (RepL.append r s)
theorem RepL.snoc {v : List V} {d : List D} {y : V} {x : D} (r : RepL K F v d) (h : Rep K F y x) : RepL K F (v ++ [y]) (d ++ [x]) := r.append (.cons h .nil)
theorem RepL.drop : ∀ {v : List V} {d : List D} (n : Nat), RepL K F v d → RepL K F (v.drop n) (d.drop n)
  | _, _, 0, r => r
  | _, _, _ + 1, .nil => .nil
  | _, _, n + 1, .cons _ r => RepL.drop n r
theorem RepL.take : ∀ {v : List V} {d : List D} (n : Nat), RepL K F v d → RepL K F (v.take n) (d.take n)
  | _, _, 0, r => .nil
  | _, _, _ + 1, .nil => .nil
  | _, _, n + 1, .cons h r => .cons h (RepL.take n r)
theorem RepL.reverse : ∀ {v : List V} {d : List D}, RepL K F v d → RepL K F v.reverse d.reverse
  | _, _, .nil => .nil
  | _, _, .cons h r => by rw [List.reverse_cons, List.reverse_cons]; exact r.reverse.snoc h
end

/-! ### ghosts, the context, the good state -/
structure Gh (T : Type) where
  ptr : Nat → Addr
  fp : List Addr
  J : T → Hp → Hp → Prop
  stab : ∀ t F H F' H', J t F H → Same F F' → (∀ a ∈ fp, H' a = H a) → J t F' H'
structure Ct (T : Type) extends Gh T where
  K : PySem.W.Frag
  cls : Nat → Addr
/-- the frozen part lies in the heap (a dict may be locked) -/
def Sub (F H : Hp) : Prop := ∀ a o, F a = some o → H a = some o ∨ ((∃ ks, o = .dK ks) ∧ ∃ ob, H a = some (.frz ob o))
def SlotOk {T : Type} (C : Ct T) (H0 : Hp) (L : Nat → Option Addr) (i : Nat) (F H : Hp) : Slot → Option (Option V) → Prop
  | .un, _ => True
  | .fz d, v => ∃ x, v = some (some x) ∧ Rep C.K F x d
  | .ol xs, v => ∃ p vs, v = some (some (.ref p)) ∧ F p = none ∧ H0 p = none ∧ H p = some (.lst vs) ∧ RepL C.K F vs xs
  | .od kvs, v => ∃ p ks, v = some (some (.ref p)) ∧ F p = none ∧ H0 p = none ∧ H p = some (.dK ks) ∧ RepKV C.K F ks kvs
  | .pt n, v => v = some (some (.ref (C.ptr n)))
  | .bw xs, v => ∃ q vs, L i = some q ∧ v = some (some (.ref q)) ∧ q ∉ C.fp ∧ H0 q = some (.lst vs) ∧ RepL C.K F vs xs
structure Good {T : Type} (C : Ct T) (F0 H0 : Hp) (L : Nat → Option Addr) (s : S T) (σ : L2.St) (F H : Hp) : Prop where
  len : s.env.length = σ.length
  sub : Sub F H
  ext0 : Same F0 F
  base : ∀ a o, H0 a = some o → a ∉ C.fp → H a = some o
  newF : ∀ a o, F a = some o → F0 a = some o ∨ H0 a = none
  fp0 : ∀ a ∈ C.fp, H0 a ≠ none
  fpF : ∀ a ∈ C.fp, F a = none
  fpH : ∀ a ∈ C.fp, H a ≠ none
  lH : ∀ (i : Nat) (q : Addr), L i = some q → H0 q ≠ none
  slots : ∀ (i : Nat) (x : Slot), s.env[i]? = some x → SlotOk C H0 L i F H x (σ[i]?)
  sep : ∀ (i j : Nat) (x y : Slot) (p : Addr), i ≠ j → s.env[i]? = some x → s.env[j]? = some y → x.owned = true → y.owned = true → σ[i]? = some (some (.ref p)) → σ[j]? ≠ some (some (.ref p))
  j : C.J s.t F H
/-- a new object that nobody holds yet -/
structure Tmp {T : Type} (C : Ct T) (H0 : Hp) (s : S T) (σ : L2.St) (F H : Hp) (p : Addr) : Prop where
  f : F p = none
  h0 : H0 p = none
  no : ∀ (i : Nat) (x : Slot), s.env[i]? = some x → x.owned = true → σ[i]? ≠ some (some (.ref p))

section
variable {T : Type} {C : Ct T} {F0 H0 F H F' H' : Hp} {L : Nat → Option Addr} {s : S T} {σ : L2.St}
theorem Same.updN {F : Hp} {p : Addr} {o : HO} (h : F p = none) : Same F (upd F p o) := fun b u e => by
  rw [upd_ne (ne_of_none e h)]
  exact e
theorem Sub.nn {a : Addr} (u : Sub F H) (h : H a = none) : F a = none := by
  cases e : F a with
  | none => rfl
  | some o =>
    rcases u a o e with z | ⟨_, ob, z⟩ <;> rw [h] at z <;> cases z
theorem Sub.lst {a : Addr} {xs : List V} (u : Sub F H) (h : F a = some (.lst xs)) : H a = some (.lst xs) := by
  rcases u a _ h with z | ⟨⟨ks, z⟩, _⟩
  · exact z
  · cases z
theorem Sub.tup {a : Addr} {xs : List V} {K : PySem.W.Frag} (u : Sub F H) (h : SqT K F a xs) : SqT K H a xs := by
  rcases h with (h | ⟨o, h⟩) | h
  · rcases u a _ h with z | ⟨⟨ks, z⟩, _⟩
    · exact .inl (.inl z)
    · cases z
  · rcases u a _ h with z | ⟨⟨ks, z⟩, _⟩
    · exact .inl (.inr ⟨o, z⟩)
    · cases z
  · exact .inr h
theorem Sub.dic {a : Addr} {ks : List (Key × V)} (u : Sub F H) (h : F a = some (.dK ks)) : Rd H a (.dK ks) := by
  rcases u a _ h with z | ⟨_, ob, z⟩
  · exact .inl z
  · exact .inr ⟨ob, z⟩
theorem Good.fresh (g : Good C F0 H0 L s σ F H) {p : Addr} (h : H p = none) : F p = none ∧ H0 p = none ∧ p ∉ C.fp := by
  refine ⟨g.sub.nn h, ?_, fun z => g.fpH p z h⟩
  cases e : H0 p with
  | none => rfl
  | some o =>
    by_cases z : p ∈ C.fp
    · exact absurd h (g.fpH p z)
    · rw [g.base p o e z] at h; cases h
/-- nothing that stands changes; what is newly frozen was not there -/
theorem Good.grow (g : Good C F0 H0 L s σ F H) (e : Same F F') (u : Sub F' H') (st : Same H H') (nw : ∀ a o, F' a = some o → F a = some o ∨ H a = none) : Good C F0 H0 L s σ F' H' where
  len := g.len
  sub := u
  ext0 := g.ext0.trans e
  base := fun a o h z => st a o (g.base a o h z)
  newF := fun a o h => by
    rcases nw a o h with z | z
    · exact g.newF a o z
    · exact .inr (g.fresh z).2.1
  fp0 := g.fp0
  fpF := fun a z => by
    cases q : F' a with
    | none => rfl
    | some o =>
      rcases nw a o q with y | y
      · rw [g.fpF a z] at y; cases y
      · exact absurd y (g.fpH a z)
  fpH := fun a z h => g.fpH a z (Same.free st h)
  lH := g.lH
  slots := fun i x h => by
    have k := g.slots i x h
    have fr : ∀ p o, F p = none → H p = some o → F' p = none := fun p o h1 h2 => by
      cases q : F' p with
      | none => rfl
      | some o' =>
        rcases nw p o' q with y | y
        · rw [h1] at y; cases y
        · rw [h2] at y; cases y
    cases x with
    | un => trivial
    | fz d =>
      obtain ⟨v, h1, h2⟩ := k
      exact ⟨v, h1, h2.mono e⟩
    | ol xs =>
      obtain ⟨p, vs, h1, h2, h3, h4, h5⟩ := k
      exact ⟨p, vs, h1, fr p _ h2 h4, h3, st _ _ h4, h5.mono e⟩
    | od kvs =>
      obtain ⟨p, vs, h1, h2, h3, h4, h5⟩ := k
      exact ⟨p, vs, h1, fr p _ h2 h4, h3, st _ _ h4, h5.mono e⟩
    | pt n => exact k
    | bw xs =>
      obtain ⟨q, vs, h1, h2, h3, h4, h5⟩ := k
      exact ⟨q, vs, h1, h2, h3, h4, h5.mono e⟩
  sep := g.sep
  j := C.stab s.t F H F' H' g.j e fun a z => by
    cases q : H a with
    | none => exact absurd q (g.fpH a z)
    | some o => exact st a o q
/-- the same heap and frozen part, other slots of the same kind -/
theorem Tmp.fresh (g : Good C F0 H0 L s σ F H) {p : Addr} (h : H p = none) {o : HO} : Tmp C H0 s σ F (upd H p o) p where
  f := (g.fresh h).1
  h0 := (g.fresh h).2.1
  no := fun i x hx ho e => by
    have k := g.slots i x hx
    cases x with
    | ol xs =>
      obtain ⟨q, vs, h1, h2, h3, h4, h5⟩ := k
      rw [h1] at e; cases e
      rw [h] at h4; cases h4
    | od xs =>
      obtain ⟨q, vs, h1, h2, h3, h4, h5⟩ := k
      rw [h1] at e; cases e
      rw [h] at h4; cases h4
    | _ => cases ho
theorem Sub.updN {p : Addr} {o : HO} (u : Sub F H) (h : H p = none) : Sub F (upd H p o) := fun a o' e => by
  have hn : a ≠ p := ne_of_none e (u.nn h)
  rw [upd_ne hn]
  exact u a o' e
theorem Sub.upd2 {p : Addr} {o : HO} (u : Sub F H) : Sub (upd F p o) (upd H p o) := fun a o' e => by
  by_cases hn : a = p
  · subst hn
    rw [upd_same] at e ⊢
    exact .inl e
  · rw [upd_ne hn] at e ⊢
    exact u a o' e
/-- a new object stands, not frozen -/
theorem Good.alloc (g : Good C F0 H0 L s σ F H) {p : Addr} {o : HO} (h : H p = none) : Good C F0 H0 L s σ F (upd H p o) :=
  g.grow (Same.refl F) (g.sub.updN h) (Same.updN h) fun a o' e => .inl e
/-- a new object stands, frozen -/
theorem Good.allocF (g : Good C F0 H0 L s σ F H) {p : Addr} {o : HO} (h : H p = none) : Good C F0 H0 L s σ (upd F p o) (upd H p o) :=
  g.grow (Same.updN (g.sub.nn h)) g.sub.upd2 (Same.updN h) fun a o' e => by
    by_cases hn : a = p
    · subst hn; exact .inr h
    · rw [upd_ne hn] at e; exact .inl e
/-- an object that nobody holds is frozen -/
theorem Good.freeze (g : Good C F0 H0 L s σ F H) {p : Addr} {o : HO} (t : Tmp C H0 s σ F H p) (h : H p = some o) : Good C F0 H0 L s σ (upd F p o) H where
  len := g.len
  sub := fun a o' e => by
    by_cases hn : a = p
    · subst hn
      rw [upd_same] at e; cases e
      exact .inl h
    · rw [upd_ne hn] at e
      exact g.sub a o' e
  ext0 := g.ext0.trans (Same.updN t.f)
  base := g.base
  newF := fun a o' e => by
    by_cases hn : a = p
    · subst hn; exact .inr t.h0
    · rw [upd_ne hn] at e; exact g.newF a o' e
  fp0 := g.fp0
  fpF := fun a z => by
    have hn : a ≠ p := fun y => g.fp0 a z (by rw [y]; exact t.h0)
    rw [upd_ne hn]
    exact g.fpF a z
  fpH := g.fpH
  lH := g.lH
  slots := fun i x hx => by
    have k := g.slots i x hx
    have e := Same.updN (o := o) t.f
    cases x with
    | un => trivial
    | fz d =>
      obtain ⟨v, h1, h2⟩ := k
      exact ⟨v, h1, h2.mono e⟩
    | ol xs =>
      obtain ⟨q, vs, h1, h2, h3, h4, h5⟩ := k
      refine ⟨q, vs, h1, ?_, h3, h4, h5.mono e⟩
      rw [upd_ne (fun y => t.no i _ hx rfl (by rw [h1, y]))]
      exact h2
    | od xs =>
      obtain ⟨q, vs, h1, h2, h3, h4, h5⟩ := k
      refine ⟨q, vs, h1, ?_, h3, h4, h5.mono e⟩
      rw [upd_ne (fun y => t.no i _ hx rfl (by rw [h1, y]))]
      exact h2
    | pt n => exact k
    | bw xs =>
      obtain ⟨q, vs, h1, h2, h3, h4, h5⟩ := k
      exact ⟨q, vs, h1, h2, h3, h4, h5.mono e⟩
  sep := g.sep
  j := C.stab s.t F H _ H g.j (Same.updN t.f) fun a _ => rfl
/-- a slot is stored -/
theorem Good.set (g : Good C F0 H0 L s σ F H) (i : Nat) {x : Slot} {v : V} (k : SlotOk C H0 L i F H x (some (some v))) (ho : ∀ p, x.owned = true → v = .ref p → ∀ (j : Nat) (y : Slot), j ≠ i → s.env[j]? = some y → y.owned = true → σ[j]? ≠ some (some (.ref p))) :
    Good C F0 H0 L ⟨s.env.set i x, s.t⟩ (σ.set i (some v)) F H where
  len := by simpa using g.len
  sub := g.sub
  ext0 := g.ext0
  base := g.base
  newF := g.newF
  fp0 := g.fp0
  fpF := g.fpF
  fpH := g.fpH
  lH := g.lH
  slots := fun a y h => by
    by_cases e : i = a
    · subst e
      by_cases hl : i < s.env.length
      · rw [List.getElem?_set_self hl] at h
        cases h
        rw [List.getElem?_set_self (by rw [← g.len]; exact hl)]
        exact k
      · rw [List.getElem?_eq_none (by simpa using hl)] at h
        cases h
    · rw [List.getElem?_set_ne e] at h ⊢
      exact g.slots a y h
  sep := fun a b y z p hab h1 h2 o1 o2 e1 e2 => by
    by_cases ea : i = a
    · subst ea
      by_cases hl : i < s.env.length
      · rw [List.getElem?_set_self hl] at h1
        cases h1
        rw [List.getElem?_set_self (by rw [← g.len]; exact hl)] at e1
        rw [List.getElem?_set_ne hab] at h2 e2
        exact ho p o1 (Option.some.inj (Option.some.inj e1)) b z (Ne.symm hab) h2 o2 e2
      · rw [List.getElem?_eq_none (by simpa using hl)] at h1
        cases h1
    · rw [List.getElem?_set_ne ea] at h1 e1
      by_cases eb : i = b
      · subst eb
        by_cases hl : i < s.env.length
        · rw [List.getElem?_set_self hl] at h2
          cases h2
          rw [List.getElem?_set_self (by rw [← g.len]; exact hl)] at e2
          exact ho p o2 (Option.some.inj (Option.some.inj e2)) a y hab h1 o1 e1
        · rw [List.getElem?_eq_none (by simpa using hl)] at h2
          cases h2
      · rw [List.getElem?_set_ne eb] at h2 e2
        exact g.sep a b y z p hab h1 h2 o1 o2 e1 e2
  j := g.j
theorem Good.setFz (g : Good C F0 H0 L s σ F H) (i : Nat) {d : D} {v : V} (r : Rep C.K F v d) : Good C F0 H0 L ⟨s.env.set i (.fz d), s.t⟩ (σ.set i (some v)) F H :=
  g.set i (x := .fz d) ⟨v, rfl, r⟩ fun _ z => by cases z
/-- the slot's store where the value stands there already -/
theorem set_self' {α : Type} : ∀ {l : List α} {i : Nat} {x : α}, l[i]? = some x → l.set i x = l
  | [], _, _, h => by simp at h
  | a :: r, 0, x, h => by simp at h; subst h; rfl
  | a :: r, i + 1, x, h => by
    show a :: r.set i x = a :: r
    rw [set_self' (by simpa using h)]
theorem Good.reset (g : Good C F0 H0 L s σ F H) (i : Nat) {x : Slot} {v : V} (hv : σ[i]? = some (some v)) (k : SlotOk C H0 L i F H x (some (some v))) (ho : ∀ p, x.owned = true → v = .ref p → ∀ (j : Nat) (y : Slot), j ≠ i → s.env[j]? = some y → y.owned = true → σ[j]? ≠ some (some (.ref p))) :
    Good C F0 H0 L ⟨s.env.set i x, s.t⟩ σ F H := by
  have q := g.set i k ho
  rw [set_self' hv] at q
  exact q
/-- a slot is forgotten -/
theorem Good.forget (g : Good C F0 H0 L s σ F H) (i : Nat) : Good C F0 H0 L ⟨s.env.set i .un, s.t⟩ σ F H where
  len := by simpa using g.len
  sub := g.sub
  ext0 := g.ext0
  base := g.base
  newF := g.newF
  fp0 := g.fp0
  fpF := g.fpF
  fpH := g.fpH
  lH := g.lH
  slots := fun a y h => by
    by_cases e : i = a
    · subst e
      by_cases hl : i < s.env.length
      · rw [List.getElem?_set_self hl] at h
        cases h
        trivial
      · rw [List.getElem?_eq_none (by simpa using hl)] at h
        cases h
    · rw [List.getElem?_set_ne e] at h
      exact g.slots a y h
  sep := fun a b y z p hab h1 h2 o1 o2 => by
    by_cases ea : i = a
    · subst ea
      by_cases hl : i < s.env.length
      · rw [List.getElem?_set_self hl] at h1
        cases h1
        cases o1
      · rw [List.getElem?_eq_none (by simpa using hl)] at h1
        cases h1
    · rw [List.getElem?_set_ne ea] at h1
      by_cases eb : i = b
      · subst eb
        by_cases hl : i < s.env.length
        · rw [List.getElem?_set_self hl] at h2
          cases h2
          cases o2
        · rw [List.getElem?_eq_none (by simpa using hl)] at h2
          cases h2
      · rw [List.getElem?_set_ne eb] at h2
        exact g.sep a b y z p hab h1 h2 o1 o2
  j := g.j
/-- the object of an owned slot is changed -/
theorem Good.mutate (g : Good C F0 H0 L s σ F H) {i : Nat} {x y : Slot} {p : Addr} {o : HO} (hi : s.env[i]? = some x) (ox : x.owned = true) (hp : σ[i]? = some (some (.ref p))) (k : SlotOk C H0 L i F (upd H p o) y (some (some (.ref p)))) (fp : F p = none) (h0 : H0 p = none) (hn : ∃ u, H p = some u) :
    Good C F0 H0 L ⟨s.env.set i y, s.t⟩ σ F (upd H p o) := by
  have pf : p ∉ C.fp := fun z => g.fp0 p z h0
  have g1 : Good C F0 H0 L ⟨s.env.set i .un, s.t⟩ σ F (upd H p o) := {
    len := by simpa using g.len
    sub := fun a o' e => by
      have hn : a ≠ p := ne_of_none e fp
      rw [upd_ne hn]
      exact g.sub a o' e
    ext0 := g.ext0
    base := fun a o' e z => by
      have hn : a ≠ p := ne_of_none e h0
      rw [upd_ne hn]
      exact g.base a o' e z
    newF := g.newF
    fp0 := g.fp0
    fpF := g.fpF
    fpH := fun a z => by
      have hn : a ≠ p := fun y => pf (y ▸ z)
      rw [upd_ne hn]
      exact g.fpH a z
    lH := g.lH
    slots := fun a z h => by
      by_cases e : i = a
      · subst e
        by_cases hl : i < s.env.length
        · rw [List.getElem?_set_self hl] at h
          cases h
          trivial
        · rw [List.getElem?_eq_none (by simpa using hl)] at h
          cases h
      · rw [List.getElem?_set_ne e] at h
        have k := g.slots a z h
        cases z with
        | un => trivial
        | fz d => exact k
        | pt n => exact k
        | bw xs => exact k
        | ol xs =>
          obtain ⟨q, vs, h1, h2, h3, h4, h5⟩ := k
          refine ⟨q, vs, h1, h2, h3, ?_, h5⟩
          rw [upd_ne]
          · exact h4
          · rintro rfl
            exact g.sep i a x (.ol xs) q e hi h ox rfl hp h1
        | od xs =>
          obtain ⟨q, vs, h1, h2, h3, h4, h5⟩ := k
          refine ⟨q, vs, h1, h2, h3, ?_, h5⟩
          rw [upd_ne]
          · exact h4
          · rintro rfl
            exact g.sep i a x (.od xs) q e hi h ox rfl hp h1
    sep := (g.forget i).sep
    j := C.stab s.t F H F _ g.j (Same.refl F) fun a z => upd_ne fun y => pf (y ▸ z) }
  have q := g1.reset i (x := y) hp k fun p' _ e j z hj hz oz e2 => by
    cases e
    rw [List.getElem?_set_ne (Ne.symm hj)] at hz
    exact g.sep i j x z p (Ne.symm hj) hi hz ox oz hp e2
  simpa [List.set_set] using q
/-! ### protecting an object that nobody holds; borrowing -/
theorem Good.protect (g : Good C F0 H0 L s σ F H) {p : Addr} {o : HO} (t : Tmp C H0 s σ F H p) (h : H p = some o) : Good C F0 (upd H0 p o) L s σ F H where
  len := g.len
  sub := g.sub
  ext0 := g.ext0
  base := fun a u e z => by
    by_cases hn : a = p
    · subst hn
      rw [upd_same] at e; cases e
      exact h
    · rw [upd_ne hn] at e
      exact g.base a u e z
  newF := fun a u e => by
    have hn : a ≠ p := ne_of_none e t.f
    rw [upd_ne hn]
    exact g.newF a u e
  fp0 := fun a z e => by
    by_cases hn : a = p
    · subst hn
      rw [upd_same] at e; cases e
    · rw [upd_ne hn] at e
      exact g.fp0 a z e
  fpF := g.fpF
  fpH := g.fpH
  lH := fun i q e z => by
    by_cases hn : q = p
    · subst hn
      rw [upd_same] at z; cases z
    · rw [upd_ne hn] at z
      exact g.lH i q e z
  slots := fun i x hx => by
    have k := g.slots i x hx
    cases x with
    | un => trivial
    | fz d => exact k
    | pt n => exact k
    | ol xs =>
      obtain ⟨q, vs, h1, h2, h3, h4, h5⟩ := k
      refine ⟨q, vs, h1, h2, ?_, h4, h5⟩
      rw [upd_ne (fun y => t.no i _ hx rfl (by rw [h1, y]))]
      exact h3
    | od xs =>
      obtain ⟨q, vs, h1, h2, h3, h4, h5⟩ := k
      refine ⟨q, vs, h1, h2, ?_, h4, h5⟩
      rw [upd_ne (fun y => t.no i _ hx rfl (by rw [h1, y]))]
      exact h3
    | bw xs =>
      obtain ⟨q, vs, h1, h2, h3, h4, h5⟩ := k
      refine ⟨q, vs, h1, h2, h3, ?_, h5⟩
      rw [upd_ne (ne_of_none h4 t.h0)]
      exact h4
  sep := g.sep
  j := g.j
theorem Good.unprotect {p : Addr} {o : HO} (g : Good C F0 (upd H0 p o) L s σ F H) (h0 : H0 p = none) (fp : F0 p = none) (pfp : p ∉ C.fp) (hL : ∀ (i : Nat) (q : Addr), L i = some q → H0 q ≠ none) : Good C F0 H0 L s σ F H ∧ Tmp C H0 s σ F H p ∧ H p = some o := by
  have hF : F p = none := by
    cases e : F p with
    | none => rfl
    | some u =>
      rcases g.newF p u e with z | z
      · rw [fp] at z; cases z
      · rw [upd_same] at z; cases z
  have up : ∀ a, (upd H0 p o) a = none → H0 a = none := fun a e => by
    by_cases hn : a = p
    · subst hn; exact h0
    · rw [upd_ne hn] at e; exact e
  refine ⟨⟨g.len, g.sub, g.ext0, fun a u e z => g.base a u (by rw [upd_ne (ne_of_none e h0)]; exact e) z, fun a u e => (g.newF a u e).imp id (up a), fun a z e => ?_, g.fpF, g.fpH, hL, fun i x hx => ?_, g.sep, g.j⟩, ⟨hF, h0, fun i x hx ho e => ?_⟩, g.base p o upd_same pfp⟩
  · have q := g.fp0 a z
    have hn : a ≠ p := fun y => by rw [y] at z; exact pfp z
    rw [upd_ne hn] at q
    exact q e
  · have k := g.slots i x hx
    cases x with
    | un => trivial
    | fz d => exact k
    | pt n => exact k
    | ol xs =>
      obtain ⟨q, vs, h1, h2, h3, h4, h5⟩ := k
      exact ⟨q, vs, h1, h2, up _ h3, h4, h5⟩
    | od xs =>
      obtain ⟨q, vs, h1, h2, h3, h4, h5⟩ := k
      exact ⟨q, vs, h1, h2, up _ h3, h4, h5⟩
    | bw xs =>
      obtain ⟨q, vs, h1, h2, h3, h4, h5⟩ := k
      rw [upd_ne (fun y => hL i q h1 (by rw [y]; exact h0))] at h4
      exact ⟨q, vs, h1, h2, h3, h4, h5⟩
  · have k := g.slots i x hx
    cases x with
    | ol xs =>
      obtain ⟨q, vs, h1, h2, h3, h4, h5⟩ := k
      rw [h1] at e; cases e
      rw [upd_same] at h3; cases h3
    | od xs =>
      obtain ⟨q, vs, h1, h2, h3, h4, h5⟩ := k
      rw [h1] at e; cases e
      rw [upd_same] at h3; cases h3
    | _ => cases ho
end
end Pm

set_option Elab.async false
set_option linter.all false
set_option maxRecDepth 100000
/-! Judgements: a reading of the hand layer keeps to a function of the slots; expressions. -/
namespace Pm
open PySem L2

section
variable {T : Type} (C : Ct T) (W : WX)
def Po (F0 H0 : Hp) (L : Nat → Option Addr) (F : Hp) (σ : L2.St) {α : Type} (G : α → S T → Hp → Hp → Prop) : Res T α → Prop
  | .ok a s' => ∀ F' H', Good C F0 H0 L s' σ F' H' → Same F F' → G a s' F' H'
  | .exc c s' => ∀ F' H', Good C F0 H0 L s' σ F' H' → Same F F' → W (.ref (C.cls c)) none σ H'
  | .stuck => False
/-- a value as a slot's content, held by nobody yet -/
def SlotV (H0 : Hp) (s : S T) (σ : L2.St) (F H : Hp) (v : V) : Slot → Prop
  | .un => True
  | .fz d => Rep C.K F v d
  | .ol xs => ∃ p vs, v = .ref p ∧ Tmp C H0 s σ F H p ∧ H p = some (.lst vs) ∧ RepL C.K F vs xs
  | .od kvs => ∃ p ks, v = .ref p ∧ Tmp C H0 s σ F H p ∧ H p = some (.dK ks) ∧ RepKV C.K F ks kvs
  | .pt n => v = .ref (C.ptr n)
  | .bw _ => False
def Sv (t : TE) (f : M T D) : Prop := ∀ F0 H0 L s σ F H (Q : VK), Good C F0 H0 L s σ F H → Po C W F0 H0 L F σ (fun d _ F' H' => ∀ v, Rep C.K F' v d → Q v H') (f s) → t σ H Q
def Stt (t : TT) (f : M T Bool) : Prop := ∀ F0 H0 L s σ F H (Q : Bool → Hp → Prop), Good C F0 H0 L s σ F H → Po C W F0 H0 L F σ (fun b _ _ H' => Q b H') (f s) → t σ H Q
def Sa (t : TA) (f : M T (List D)) : Prop := ∀ F0 H0 L s σ F H (Q : List V → Hp → Prop), Good C F0 H0 L s σ F H → Po C W F0 H0 L F σ (fun ds _ F' H' => ∀ vs, RepL C.K F' vs ds → Q vs H') (f s) → t σ H Q
def Se (t : TE) (f : M T Slot) : Prop := ∀ F0 H0 L s σ F H (Q : VK), Good C F0 H0 L s σ F H → Po C W F0 H0 L F σ (fun x s' F' H' => ∀ v, SlotV C H0 s' σ F' H' v x → Q v H') (f s) → t σ H Q
/-- a two-place operation by values -/
def Rv (r : R2) (op : D → D → Option D) : Prop := ∀ F0 H0 L (s : S T) σ F H x y a b (Q : VK), Good C F0 H0 L s σ F H → Rep C.K F x a → Rep C.K F y b →
  (match op a b with
    | some d => ∀ v F' H', Good C F0 H0 L s σ F' H' → Same F F' → Rep C.K F' v d → Q v H'
    | none => False) → r x y H Q
def Ru (r : V → Hp → VK → Prop) (op : D → Option D) : Prop := ∀ F0 H0 L (s : S T) σ F H x a (Q : VK), Good C F0 H0 L s σ F H → Rep C.K F x a →
  (match op a with
    | some d => ∀ v F' H', Good C F0 H0 L s σ F' H' → Same F F' → Rep C.K F' v d → Q v H'
    | none => False) → r x H Q
/-- a built-in by values -/
def Rc (r : List V → Hp → VK → Prop) (op : List D → Option D) : Prop := ∀ F0 H0 L (s : S T) σ F H xs as (Q : VK), Good C F0 H0 L s σ F H → RepL C.K F xs as →
  (match op as with
    | some d => ∀ v F' H', Good C F0 H0 L s σ F' H' → Same F F' → Rep C.K F' v d → Q v H'
    | none => False) → r xs H Q
end

def mOp {T : Type} (op : D → D → Option D) (fa fb : M T D) : M T D := mBind fa fun a => mBind fb fun b => mLift (op a b)
def mUn {T : Type} (op : D → Option D) (fa : M T D) : M T D := mBind fa fun a => mLift (op a)
def mCons {T : Type} (fa : M T D) (fr : M T (List D)) : M T (List D) := mBind fa fun a => mBind fr fun r => mRet (a :: r)
def asB : D → Option Bool
  | .bool b => some b
  | _ => none
def mB {T : Type} (f : M T D) : M T Bool := mBind f fun d => mLift (asB d)
def mIf {T α : Type} (c : M T Bool) (a b : M T α) : M T α := mBind c fun k => match k with
  | true => a
  | false => b
def mNot {T : Type} (c : M T Bool) : M T Bool := mBind c fun k => mRet (!k)
def mOfB {T : Type} (c : M T Bool) : M T D := mBind c fun k => mRet (.bool k)
def mAnd {T : Type} (a b : M T Bool) : M T Bool := mIf a b (mRet false)
def mOr {T : Type} (a b : M T Bool) : M T Bool := mIf a (mRet true) b
/-- a and b as a value, a a bool -/
def mAndV {T : Type} (a b : M T D) : M T D := mIf (mB a) b (mRet (.bool false))
def mOrV {T : Type} (a b : M T D) : M T D := mIf (mB a) (mRet (.bool true)) b
def mVar {T : Type} (i : Nat) : M T D := fun s => match s.env[i]? with
  | some (.fz d) => .ok d s
  | some (.ol xs) => .ok (.list xs) ⟨s.env.set i (.fz (.list xs)), s.t⟩
  | some (.od kvs) => .ok (.dict kvs) ⟨s.env.set i (.fz (.dict kvs)), s.t⟩
  | _ => .stuck
def mChain {T : Type} (op op' : D → D → Option D) (fa fb fc : M T D) : M T D := mBind fa fun a => mBind fb fun b => mBind (mB (mLift (op a b))) fun k => match k with
  | true => mBind fc fun c => mLift (op' b c)
  | false => mRet (.bool false)

section
variable {T : Type} {C : Ct T} {W : WX} {F0 H0 F F1 H : Hp} {L : Nat → Option Addr} {s : S T} {σ : L2.St} {α β : Type}
theorem po_from {G : α → S T → Hp → Hp → Prop} {r : Res T α} (h : Po C W F0 H0 L F σ G r) (e : Same F F1) : Po C W F0 H0 L F1 σ G r := by
  cases r with
  | ok a s' => exact fun F' H' g e' => h F' H' g (e.trans e')
  | exc c s' => exact fun F' H' g e' => h F' H' g (e.trans e')
  | stuck => exact h
theorem po_imp {G G' : α → S T → Hp → Hp → Prop} {r : Res T α} (h : Po C W F0 H0 L F σ G r) (k : ∀ a s' F' H', Good C F0 H0 L s' σ F' H' → Same F F' → G a s' F' H' → G' a s' F' H') : Po C W F0 H0 L F σ G' r := by
  cases r with
  | ok a s' => exact fun F' H' g e' => k a s' F' H' g e' (h F' H' g e')
  | exc c s' => exact h
  | stuck => exact h
theorem po_bind {m : M T α} {f : α → M T β} {G : β → S T → Hp → Hp → Prop} (h : Po C W F0 H0 L F σ G (mBind m f s)) : Po C W F0 H0 L F σ (fun a s1 F1 _ => Po C W F0 H0 L F1 σ G (f a s1)) (m s) := by
  unfold mBind at h
  cases q : m s with
  | ok a s' =>
    rw [q] at h
    exact fun F' H' g e' => po_from h e'
  | exc c s' =>
    rw [q] at h
    exact h
  | stuck =>
    rw [q] at h
    exact h
/-- where the outcome is known at once -/
theorem po_ret {a : α} {G : α → S T → Hp → Hp → Prop} (h : Po C W F0 H0 L F σ G (mRet a s)) (g : Good C F0 H0 L s σ F H) : G a s F H := h F H g (Same.refl F)
theorem po_lift {o : Option α} {G : α → S T → Hp → Hp → Prop} (h : Po C W F0 H0 L F σ G (mLift o s)) : ∃ a, o = some a ∧ Po C W F0 H0 L F σ G (mRet a s) := by
  unfold mLift at h
  cases q : o with
  | none => rw [q] at h; exact h.elim
  | some a => rw [q] at h; exact ⟨a, rfl, h⟩
theorem sv_var (i : Nat) : Sv C W (tVar i) (mVar i) := by
  intro F0 H0 L s σ F H Q g h
  unfold mVar at h
  cases q : s.env[i]? with
  | none => rw [q] at h; exact h.elim
  | some x =>
    rw [q] at h
    have k := g.slots i x q
    cases x with
    | un => exact h.elim
    | pt n => exact h.elim
    | bw xs => exact h.elim
    | fz d =>
      obtain ⟨v, h1, h2⟩ := k
      exact ⟨v, h1, h F H g (Same.refl F) v h2⟩
    | ol xs =>
      obtain ⟨p, vs, h1, h2, h3, h4, h5⟩ := k
      have t : Tmp C H0 ⟨s.env.set i .un, s.t⟩ σ F H p := ⟨h2, h3, fun j y hj oy e => by
        by_cases ij : i = j
        · subst ij
          by_cases hl : i < s.env.length
          · rw [List.getElem?_set_self hl] at hj; cases hj; cases oy
          · rw [List.getElem?_eq_none (by simpa using hl)] at hj; cases hj
        · rw [List.getElem?_set_ne ij] at hj
          exact g.sep i j _ y p ij q hj rfl oy h1 e⟩
      have e := Same.updN (o := HO.lst vs) h2
      have g2 := ((g.forget i).freeze t h4).reset i (x := .fz (.list xs)) h1 ⟨_, rfl, .lst upd_same (h5.mono e)⟩ fun _ z => by cases z
      simp only [List.set_set] at g2
      exact ⟨.ref p, h1, h _ H g2 e _ (.lst upd_same (h5.mono e))⟩
    | od xs =>
      obtain ⟨p, vs, h1, h2, h3, h4, h5⟩ := k
      have t : Tmp C H0 ⟨s.env.set i .un, s.t⟩ σ F H p := ⟨h2, h3, fun j y hj oy e => by
        by_cases ij : i = j
        · subst ij
          by_cases hl : i < s.env.length
          · rw [List.getElem?_set_self hl] at hj; cases hj; cases oy
          · rw [List.getElem?_eq_none (by simpa using hl)] at hj; cases hj
        · rw [List.getElem?_set_ne ij] at hj
          exact g.sep i j _ y p ij q hj rfl oy h1 e⟩
      have e := Same.updN (o := HO.dK vs) h2
      have g2 := ((g.forget i).freeze t h4).reset i (x := .fz (.dict xs)) h1 ⟨_, rfl, .dic upd_same (h5.mono e)⟩ fun _ z => by cases z
      simp only [List.set_set] at g2
      exact ⟨.ref p, h1, h _ H g2 e _ (.dic upd_same (h5.mono e))⟩
theorem sv_c {v : V} {d : D} (r : ∀ F, Rep C.K F v d) : Sv C W (tC v) (mRet d) := fun F0 H0 L s σ F H Q g h => po_ret h g v (r F)
theorem sv_int {i : Int} : Sv C W (tC (.int i)) (mRet (.int i)) := sv_c fun _ => .int i
theorem sv_bl {b : Bool} : Sv C W (tC (.bl b)) (mRet (.bool b)) := sv_c fun _ => .bl b
theorem sv_non : Sv C W (tC .non) (mRet .none) := sv_c fun _ => .non
theorem sv_str {x : Str} : Sv C W (tC (.str x)) (mRet (.str x)) := sv_c fun _ => .str x
variable {ta tb tc : TE} {fa fb fc : M T D} {t u : TT} {ft fu : M T Bool}
theorem sv_op {r : R2} {op : D → D → Option D} (ha : Sv C W ta fa) (hb : Sv C W tb fb) (hr : Rv C r op) : Sv C W (tOp r ta tb) (mOp op fa fb) := by
  intro F0 H0 L s σ F H Q g h
  refine ha _ _ _ _ _ _ _ _ g (po_imp (po_bind h) fun a s1 F1 H1 g1 e1 h1 v rv => ?_)
  refine hb _ _ _ _ _ _ _ _ g1 (po_imp (po_bind h1) fun b s2 F2 H2 g2 e2 h2 w rw' => ?_)
  refine hr _ _ _ _ _ _ _ _ _ _ _ _ g2 (rv.mono e2) rw' ?_
  unfold mLift at h2
  cases q : op a b with
  | none => rw [q] at h2; exact h2.elim
  | some d =>
    rw [q] at h2
    exact fun v' F' H' g' e' r' => h2 F' H' g' e' v' r'
theorem sv_un {r : V → Hp → VK → Prop} {op : D → Option D} (ha : Sv C W ta fa) (hr : Ru C r op) : Sv C W (tUn r ta) (mUn op fa) := by
  intro F0 H0 L s σ F H Q g h
  refine ha _ _ _ _ _ _ _ _ g (po_imp (po_bind h) fun a s1 F1 H1 g1 e1 h1 v rv => ?_)
  refine hr _ _ _ _ _ _ _ _ _ _ g1 rv ?_
  unfold mLift at h1
  cases q : op a with
  | none => rw [q] at h1; exact h1.elim
  | some d =>
    rw [q] at h1
    exact fun v' F' H' g' e' r' => h1 F' H' g' e' v' r'
theorem rep_bool {K : PySem.W.Frag} {F : Hp} {v : V} {d : D} {b : Bool} (r : Rep K F v d) (h : asB d = some b) : v = .bl b := by
  cases r with
  | bl c => cases h; rfl
  | _ => cases h
theorem stt_B (h : Sv C W ta fa) : Stt C W (tB ta) (mB fa) := by
  intro F0 H0 L s σ F H Q g k
  refine h _ _ _ _ _ _ _ _ g (po_imp (po_bind k) fun a s1 F1 H1 g1 e1 h1 v rv => ?_)
  unfold mLift at h1
  cases q : asB a with
  | none => rw [q] at h1; exact h1.elim
  | some b =>
    rw [q] at h1
    exact ⟨b, rep_bool rv q, h1 F1 H1 g1 (Same.refl _)⟩
theorem stt_test (h : Sv C W ta fa) : Stt C W (tTest ta) (mB fa) := stt_B h
theorem stt_and (h : Stt C W t ft) (k : Stt C W u fu) : Stt C W (tAnd t u) (mAnd ft fu) := by
  intro F0 H0 L s σ F H Q g q
  refine h _ _ _ _ _ _ _ _ g (po_imp (po_bind q) fun a s1 F1 H1 g1 e1 h1 => ?_)
  cases a with
  | true => exact iteT (k _ _ _ _ _ _ _ _ g1 h1)
  | false => exact iteF (po_ret h1 g1)
theorem stt_or (h : Stt C W t ft) (k : Stt C W u fu) : Stt C W (tOr t u) (mOr ft fu) := by
  intro F0 H0 L s σ F H Q g q
  refine h _ _ _ _ _ _ _ _ g (po_imp (po_bind q) fun a s1 F1 H1 g1 e1 h1 => ?_)
  cases a with
  | true => exact iteT (po_ret h1 g1)
  | false => exact iteF (k _ _ _ _ _ _ _ _ g1 h1)
theorem stt_not (h : Stt C W t ft) : Stt C W (tNot t) (mNot ft) := by
  intro F0 H0 L s σ F H Q g q
  exact h _ _ _ _ _ _ _ _ g (po_imp (po_bind q) fun a s1 F1 H1 g1 e1 h1 => po_ret h1 g1)
theorem sv_ifE (hc : Stt C W t ft) (ha : Sv C W ta fa) (hb : Sv C W tb fb) : Sv C W (tIf t ta tb) (mIf ft fa fb) := by
  intro F0 H0 L s σ F H Q g q
  refine hc _ _ _ _ _ _ _ _ g (po_imp (po_bind q) fun a s1 F1 H1 g1 e1 h1 => ?_)
  cases a with
  | true => exact iteT (ha _ _ _ _ _ _ _ _ g1 h1)
  | false => exact iteF (hb _ _ _ _ _ _ _ _ g1 h1)
theorem sv_andV (ha : Sv C W ta fa) (hb : Sv C W tb fb) : Sv C W (tAndV ta tb) (mAndV fa fb) := by
  intro F0 H0 L s σ F H Q g q
  refine ha _ _ _ _ _ _ _ _ g (po_imp (po_bind (po_bind q)) fun a s1 F1 H1 g1 e1 h1 v rv => ?_)
  unfold mLift at h1
  cases q1 : asB a with
  | none => rw [q1] at h1; exact h1.elim
  | some b =>
    rw [q1] at h1
    have h2 := h1 F1 H1 g1 (Same.refl _)
    refine ⟨b, rep_bool rv q1, ?_⟩
    cases b with
    | true => exact iteT (hb _ _ _ _ _ _ _ _ g1 h2)
    | false => exact iteF (po_ret h2 g1 _ (.bl false))
theorem sv_orV (ha : Sv C W ta fa) (hb : Sv C W tb fb) : Sv C W (tOrV ta tb) (mOrV fa fb) := by
  intro F0 H0 L s σ F H Q g q
  refine ha _ _ _ _ _ _ _ _ g (po_imp (po_bind (po_bind q)) fun a s1 F1 H1 g1 e1 h1 v rv => ?_)
  unfold mLift at h1
  cases q1 : asB a with
  | none => rw [q1] at h1; exact h1.elim
  | some b =>
    rw [q1] at h1
    have h2 := h1 F1 H1 g1 (Same.refl _)
    refine ⟨b, rep_bool rv q1, ?_⟩
    cases b with
    | true => exact iteT (po_ret h2 g1 _ (.bl true))
    | false => exact iteF (hb _ _ _ _ _ _ _ _ g1 h2)
theorem sv_notV (ha : Sv C W ta fa) : Sv C W (tNotV ta) (mOfB (mNot (mB fa))) := by
  intro F0 H0 L s σ F H Q g q
  refine ha _ _ _ _ _ _ _ _ g (po_imp (po_bind (po_bind (po_bind q))) fun a s1 F1 H1 g1 e1 h1 v rv => ?_)
  unfold mLift at h1
  cases q1 : asB a with
  | none => rw [q1] at h1; exact h1.elim
  | some b =>
    rw [q1] at h1
    have h2 := h1 F1 H1 g1 (Same.refl _)
    exact ⟨b, rep_bool rv q1, po_ret (po_ret h2 g1) g1 _ (.bl _)⟩
theorem sv_chain {r r' : R2} {op op' : D → D → Option D} (ha : Sv C W ta fa) (hb : Sv C W tb fb) (hc : Sv C W tc fc) (hr : Rv C r op) (hr' : Rv C r' op') : Sv C W (tChain r r' ta tb tc) (mChain op op' fa fb fc) := by
  intro F0 H0 L s σ F H Q g q
  refine ha _ _ _ _ _ _ _ _ g (po_imp (po_bind q) fun a s1 F1 H1 g1 e1 h1 v rv => ?_)
  refine hb _ _ _ _ _ _ _ _ g1 (po_imp (po_bind h1) fun b s2 F2 H2 g2 e2 h2 w rw' => ?_)
  refine hr _ _ _ _ _ _ _ _ _ _ _ _ g2 (rv.mono e2) rw' ?_
  have h3 := po_bind (po_bind h2)
  unfold mLift at h3
  cases q : op a b with
  | none => rw [q] at h3; exact h3.elim
  | some d =>
    rw [q] at h3
    intro z F3 H3 g3 e3 rz
    have h4 := h3 F3 H3 g3 e3
    dsimp only at h4
    cases q1 : asB d with
    | none => rw [q1] at h4; exact h4.elim
    | some k =>
      rw [q1] at h4
      have h5 := h4 F3 H3 g3 (Same.refl _)
      refine ⟨k, rep_bool rz q1, ?_⟩
      cases k with
      | false => exact iteF (po_ret h5 g3 _ (.bl false))
      | true =>
        refine iteT (hc _ _ _ _ _ _ _ _ g3 (po_imp (po_bind h5) fun c s4 F4 H4 g4 e4 h6 y ry => ?_))
        refine hr' _ _ _ _ _ _ _ _ _ _ _ _ g4 ((rw'.mono e3).mono e4) ry ?_
        unfold mLift at h6
        cases q2 : op' b c with
        | none => rw [q2] at h6; exact h6.elim
        | some d' =>
          rw [q2] at h6
          exact fun v' F' H' g' e' r' => h6 F' H' g' e' v' r'
variable {tr : TA} {fr : M T (List D)}
theorem sa_nil : Sa C W tNil (mRet []) := fun F0 H0 L s σ F H Q g h => po_ret h g [] .nil
theorem sa_cons (ha : Sv C W ta fa) (hr : Sa C W tr fr) : Sa C W (tCons ta tr) (mCons fa fr) := by
  intro F0 H0 L s σ F H Q g h
  refine ha _ _ _ _ _ _ _ _ g (po_imp (po_bind h) fun a s1 F1 H1 g1 e1 h1 v rv => ?_)
  refine hr _ _ _ _ _ _ _ _ g1 (po_imp (po_bind h1) fun b s2 F2 H2 g2 e2 h2 w rw' => ?_)
  exact po_ret h2 g2 _ (.cons (rv.mono e2) rw')
def mTup (fr : M T (List D)) : M T D := mBind fr fun xs => mLift (if xs.length ≤ 1000000 then some (.tuple xs) else none)
theorem sz_ok {n : Nat} (h : n ≤ 1000000) : n ≤ sizeLine := Nat.le_trans h (by rw [sizeLine_eq]; decide)
theorem sz_lt {n : Nat} (h : n ≤ 1000000) : n < sizeLine := Nat.lt_of_le_of_lt h (by rw [sizeLine_eq]; decide)
theorem sv_tup (h : Sa C W tr fr) : Sv C W (tTup tr) (mTup fr) := by
  intro F0 H0 L s σ F H Q g q
  refine h _ _ _ _ _ _ _ _ g (po_imp (po_bind q) fun a s1 F1 H1 g1 e1 h1 vs rv => ?_)
  unfold mLift at h1
  by_cases hl : a.length ≤ 1000000
  · rw [if_pos hl] at h1
    refine ⟨by rw [rv.length]; exact sz_ok hl, fun p hp => ?_⟩
    exact h1 _ _ (g1.allocF hp) (Same.updN (g1.sub.nn hp)) _ (.tup (.inl (.inl upd_same)) (rv.mono (Same.updN (g1.sub.nn hp))))
  · rw [if_neg hl] at h1
    exact h1.elim
/-- a display of a list: a new object -/
def mLst (fr : M T (List D)) : M T Slot := mBind fr fun xs => mLift (if xs.length ≤ 1000000 then some (.ol xs) else none)
theorem se_lst (h : Sa C W tr fr) : Se C W (tLst tr) (mLst fr) := by
  intro F0 H0 L s σ F H Q g q
  refine h _ _ _ _ _ _ _ _ g (po_imp (po_bind q) fun a s1 F1 H1 g1 e1 h1 vs rv => ?_)
  unfold mLift at h1
  by_cases hl : a.length ≤ 1000000
  · rw [if_pos hl] at h1
    refine ⟨by rw [rv.length]; exact sz_ok hl, fun p hp => ?_⟩
    exact h1 _ _ (g1.alloc hp) (Same.refl _) _ ⟨p, vs, rfl, Tmp.fresh g1 hp, upd_same, rv⟩
  · rw [if_neg hl] at h1
    exact h1.elim
/-- a slot's content is frozen -/
def frz : Slot → Option D
  | .fz d => some d
  | .ol xs => some (.list xs)
  | .od kvs => some (.dict kvs)
  | _ => none
def mFrz (f : M T Slot) : M T D := mBind f fun x => mLift (frz x)
theorem sv_frz {f : M T Slot} (h : Se C W ta f) : Sv C W ta (mFrz f) := by
  intro F0 H0 L s σ F H Q g q
  refine h _ _ _ _ _ _ _ _ g (po_imp (po_bind q) fun x s1 F1 H1 g1 e1 h1 v rv => ?_)
  unfold mLift at h1
  cases x with
  | un => exact h1.elim
  | pt n => exact h1.elim
  | bw n => exact h1.elim
  | fz d => exact h1 F1 H1 g1 (Same.refl _) v rv
  | ol xs =>
    obtain ⟨p, vs, rfl, t, hp, r⟩ := rv
    have e := Same.updN (o := HO.lst vs) t.f
    exact h1 _ H1 (g1.freeze t hp) e _ (.lst upd_same (r.mono e))
  | od xs =>
    obtain ⟨p, vs, rfl, t, hp, r⟩ := rv
    have e := Same.updN (o := HO.dK vs) t.f
    exact h1 _ H1 (g1.freeze t hp) e _ (.dic upd_same (r.mono e))
def mFz (f : M T D) : M T Slot := mBind f fun d => mRet (.fz d)
theorem se_fz {f : M T D} (h : Sv C W ta f) : Se C W ta (mFz f) := by
  intro F0 H0 L s σ F H Q g q
  exact h _ _ _ _ _ _ _ _ g (po_imp (po_bind q) fun x s1 F1 H1 g1 e1 h1 v rv => po_ret h1 g1 v rv)
theorem se_ifE {f f' : M T Slot} (hc : Stt C W t ft) (ha : Se C W ta f) (hb : Se C W tb f') : Se C W (tIf t ta tb) (mIf ft f f') := by
  intro F0 H0 L s σ F H Q g q
  refine hc _ _ _ _ _ _ _ _ g (po_imp (po_bind q) fun a s1 F1 H1 g1 e1 h1 => ?_)
  cases a with
  | true => exact iteT (ha _ _ _ _ _ _ _ _ g1 h1)
  | false => exact iteF (hb _ _ _ _ _ _ _ _ g1 h1)
end
end Pm

set_option Elab.async false
set_option linter.all false
set_option maxRecDepth 100000
/-! Operations by values. -/
namespace Pm
open PySem L2

/-! ### small helpers: lists of numbers -/
def dInts : List D → Option (List Int)
  | [] => some []
  | .int i :: r => (dInts r).map (i :: ·)
  | _ :: _ => none
def dBools : List D → Option (List Bool)
  | [] => some []
  | .bool i :: r => (dBools r).map (i :: ·)
  | _ :: _ => none
def dStrs : List D → Option (List Str)
  | [] => some []
  | .str i :: r => (dStrs r).map (i :: ·)
  | _ :: _ => none
def flatD : D → Bool
  | .none => true
  | .bool _ => true
  | .int _ => true
  | .str _ => true
  | _ => false
def toV : D → V
  | .none => .non
  | .bool b => .bl b
  | .int i => .int i
  | .str x => .str x
  | _ => .byt #[]
section
variable {K : PySem.W.Frag} {F : Hp}
theorem rep_ints : ∀ {xs : List V} {ds : List D} {ns : List Int}, RepL K F xs ds → dInts ds = some ns → xs = ns.map V.int
  | _, _, _, .nil, h => by cases h; rfl
  | _, _, ns, .cons (v := v) (vs := vs) (d := d) (ds := ds) r t, h => by
    cases r with
    | int i =>
      unfold dInts at h
      cases q : dInts ds with
      | none => rw [q] at h; cases h
      | some r' => rw [q] at h; cases h; rw [rep_ints t q]; rfl
    | _ => cases h
theorem rep_bools : ∀ {xs : List V} {ds : List D} {ns : List Bool}, RepL K F xs ds → dBools ds = some ns → xs = ns.map V.bl
  | _, _, _, .nil, h => by cases h; rfl
  | _, _, ns, .cons (v := v) (vs := vs) (d := d) (ds := ds) r t, h => by
    cases r with
    | bl i =>
      unfold dBools at h
      cases q : dBools ds with
      | none => rw [q] at h; cases h
      | some r' => rw [q] at h; cases h; rw [rep_bools t q]; rfl
    | _ => cases h
theorem rep_strs : ∀ {xs : List V} {ds : List D} {ns : List Str}, RepL K F xs ds → dStrs ds = some ns → xs = ns.map V.str
  | _, _, _, .nil, h => by cases h; rfl
  | _, _, ns, .cons (v := v) (vs := vs) (d := d) (ds := ds) r t, h => by
    cases r with
    | str i =>
      unfold dStrs at h
      cases q : dStrs ds with
      | none => rw [q] at h; cases h
      | some r' => rw [q] at h; cases h; rw [rep_strs t q]; rfl
    | _ => cases h
theorem repl_ints : ∀ (ns : List Int), RepL K F (ns.map V.int) (ns.map PyData.int)
  | [] => .nil
  | i :: r => .cons (.int i) (repl_ints r)
theorem repl_strs : ∀ (ns : List Str), RepL K F (ns.map V.str) (ns.map PyData.str)
  | [] => .nil
  | i :: r => .cons (.str i) (repl_strs r)
theorem rep_flat {v : V} {d : D} (r : Rep K F v d) (h : flatD d = true) : v = toV d ∧ flatV v = true := by
  cases r with
  | non => exact ⟨rfl, rfl⟩
  | bl b => exact ⟨rfl, rfl⟩
  | int b => exact ⟨rfl, rfl⟩
  | str b => exact ⟨rfl, rfl⟩
  | _ => cases h
theorem rep_flats : ∀ {xs : List V} {ds : List D}, RepL K F xs ds → ds.all flatD = true → xs = ds.map toV ∧ xs.all flatV = true
  | _, _, .nil, _ => ⟨rfl, rfl⟩
  | _, _, .cons r t, h => by
    rw [List.all_cons, Bool.and_eq_true] at h
    obtain ⟨h1, h2⟩ := rep_flat r h.1
    obtain ⟨h3, h4⟩ := rep_flats t h.2
    exact ⟨by rw [h1, h3]; rfl, by rw [List.all_cons, h2, h4]; rfl⟩
end
mutual
theorem Rep.dp {K : PySem.W.Frag} {F H : Hp} (u : Sub F H) : ∀ {v : V} {d : D}, Rep K F v d → PyData.canLay0 d = true → Dp K H v d
  | _, _, .non, _ => .non
  | _, _, .bl b, _ => .bl b
  | _, _, .int i, _ => .int i
  | _, _, .str x, _ => .str x
  | _, _, .lst h r, c => .lst (SqL.of (u.lst h)) (RepL.dp u r (by unfold PyData.canLay0 at c; exact c))
  | _, _, .tup h r, c => .tup (u.tup h) (RepL.dp u r (by unfold PyData.canLay0 at c; exact c))
  | _, _, .dic h r, c => by unfold PyData.canLay0 at c; cases c
theorem RepL.dp {K : PySem.W.Frag} {F H : Hp} (u : Sub F H) : ∀ {v : List V} {d : List D}, RepL K F v d → PyData.canLayAll0 d = true → DpAll K H v d
  | _, _, .nil, _ => .nil
  | _, _, .cons h r, c => by
    unfold PyData.canLayAll0 at c
    rw [Bool.and_eq_true] at c
    exact .cons (Rep.dp u h c.1) (RepL.dp u r c.2)
end

/-! ### the operations -/
def mulOk (i j : Int) : Bool := decide (i.natAbs.log2 + j.natAbs.log2 < 1000000)
def divOk (j : Int) : Bool := decide (0 < j ∧ j.natAbs.log2 < 9000)
def powOk (i j : Int) : Bool := decide (0 ≤ j ∧ j ≤ 1000000 ∧ i.natAbs < 2 ^ 64)
theorem mulOk.ok {i j : Int} (h : mulOk i j = true) : CMulW i j := of_decide_eq_true (p := i.natAbs.log2 + j.natAbs.log2 < 1000000) h
theorem divOk.ok {i j : Int} (h : divOk j = true) : CDivW i j := of_decide_eq_true (p := 0 < j ∧ j.natAbs.log2 < 9000) h
theorem powOk.ok {i j : Int} (h : powOk i j = true) : CPow i j := of_decide_eq_true (p := 0 ≤ j ∧ j ≤ 1000000 ∧ i.natAbs < 2 ^ 64) h
def lim : Nat := 1000000
def opAdd : D → D → Option D
  | .int i, .int j => some (.int (i + j))
  | .str a, .str b => if a.length + b.length ≤ lim then some (.str (a ++ b)) else none
  | .tuple [], .tuple _ => none
  | .tuple (x :: xs), .tuple ys => if xs.length + 1 + ys.length ≤ lim then some (.tuple (x :: xs ++ ys)) else none
  | .list xs, .list ys => if xs.length + ys.length ≤ lim then some (.list (xs ++ ys)) else none
  | _, _ => none
def opSub : D → D → Option D
  | .int i, .int j => some (.int (i - j))
  | _, _ => none
def opMul : D → D → Option D
  | .int i, .int j => if mulOk i j = true then some (.int (i * j)) else none
  | .list ds, .int k => if 0 ≤ k ∧ k ≤ 1000 ∧ ds.length ≤ 1000 then some (.list (List.replicate k.toNat ds).flatten) else none
  | _, _ => none
def opDiv : D → D → Option D
  | .int i, .int j => if divOk j then some (.int (i / j)) else none
  | _, _ => none
def opMod : D → D → Option D
  | .int i, .int j => if 0 < j then some (.int (i % j)) else none
  | _, _ => none
def opPow : D → D → Option D
  | .int i, .int j => if powOk i j then some (.int (i ^ j.toNat)) else none
  | _, _ => none
def opNeg : D → Option D
  | .int i => some (.int (-i))
  | _ => none
def opEq (a b : D) : Option D := if SeqAt.shaped a && SeqAt.shaped b then some (.bool (PyData.eqv a b)) else none
def opNe (a b : D) : Option D := if SeqAt.shaped a && SeqAt.shaped b then some (.bool (!PyData.eqv a b)) else none
def opLt : D → D → Option D
  | .int i, .int j => some (.bool (decide (i < j)))
  | .str a, .str b => some (.bool (decide (a.cps.toList < b.cps.toList)))
  | _, _ => none
def opLe : D → D → Option D
  | .int i, .int j => some (.bool (decide (i ≤ j)))
  | _, _ => none
def opGt : D → D → Option D
  | .int i, .int j => some (.bool (decide (j < i)))
  | _, _ => none
def opGe : D → D → Option D
  | .int i, .int j => some (.bool (decide (j ≤ i)))
  | _, _ => none
def opIs : D → D → Option D
  | .none, .none => some (.bool true)
  | _, .none => some (.bool false)
  | .bool a, .bool b => some (.bool (decide (a = b)))
  | _, _ => none
def opIsNot : D → D → Option D
  | .none, .none => some (.bool false)
  | _, .none => some (.bool true)
  | .bool a, .bool b => some (.bool (!decide (a = b)))
  | _, _ => none
def inSeq (x : D) (ds : List D) : Option Bool := if flatD x && ds.all flatD then some (inV (toV x) (ds.map toV)) else none
def opIn0 : D → D → Option D
  | x, .tuple ds => (inSeq x ds).map .bool
  | x, .list ds => (inSeq x ds).map .bool
  | .str x, .str y => some (.bool (!(Builtin.Str.occurrences y x 0 y.length 1).isEmpty))
  | _, _ => none
def opNotIn0 : D → D → Option D
  | x, .tuple ds => (inSeq x ds).map fun b => .bool (!b)
  | x, .list ds => (inSeq x ds).map fun b => .bool (!b)
  | .str x, .str y => some (.bool (!(!(Builtin.Str.occurrences y x 0 y.length 1).isEmpty)))
  | _, _ => none
def opIx0 : D → D → Option D
  | .tuple xs, .int i => atI xs i
  | .list xs, .int i => atI xs i
  | .str z, .int i => if z.length ≤ lim then (atI z.cps.toList i).map fun c => .str ⟨#[c]⟩ else none
  | _, _ => none

section
variable {T : Type} {C : Ct T} {X : Cx}
/-- the common end: the answer is a scalar, the heap as it was -/
theorem rv_end {T : Type} {C : Ct T} {F0 H0 F H : Hp} {L : Nat → Option Addr} {s : S T} {σ : L2.St} {Q : VK} {d : D} {v : V} (g : Good C F0 H0 L s σ F H) (h : ∀ v F' H', Good C F0 H0 L s σ F' H' → Same F F' → Rep C.K F' v d → Q v H') (r : Rep C.K F v d) : Q v H := h v F H g (Same.refl F) r
theorem OpR.or {f : Value → Value → Sem Value} {r r' : R2} (h : OpR X f r) (h' : OpR X f r') : OpR X f (fun x y H Q => r x y H Q ∨ r' x y H Q) := fun pins s σ H x y v u Q I rx ry q => q.elim (h pins s σ H x y v u Q I rx ry) (h' pins s σ H x y v u Q I rx ry)
abbrev rOr (r r' : R2) : R2 := fun x y H Q => r x y H Q ∨ r' x y H Q
abbrev rAddS : R2 := fun x y H Q => ∃ i j, x = .str i ∧ y = .str j ∧ i.length + j.length ≤ sizeLine ∧ Q (.str (i ++ j)) H
abbrev rAddA (K : PySem.W.Frag) : R2 := rOr (rI0 fun i j => .int (i + j)) (rOr rAddS (rOr (rCatT K) rCat))
theorem or_add : OpR X (binaryOp .Add) (rAddA X.K) := op_add.or (op_add_str.or (op_catT.or op_cat))
theorem lim_ok {n : Nat} (h : n ≤ lim) : n ≤ sizeLine := sz_ok h
theorem rv_add : Rv C (rAddA C.K) opAdd := by
  intro F0 H0 L s σ F H x y a b Q g rx ry h
  cases rx with
  | int i =>
    cases ry with
    | int j => exact .inl ⟨i, j, rfl, rfl, rv_end g h (.int _)⟩
    | _ => exact h.elim
  | str i =>
    cases ry with
    | str j =>
      dsimp only [opAdd] at h
      by_cases hl : i.length + j.length ≤ lim
      · rw [if_pos hl] at h
        exact .inr (.inl ⟨i, j, rfl, rfl, lim_ok hl, rv_end g h (.str _)⟩)
      · rw [if_neg hl] at h; exact h.elim
    | _ => exact h.elim
  | tup hx rx =>
    cases ry with
    | tup hy ry =>
      cases rx with
      | nil => exact h.elim
      | cons rx1 rx2 =>
        dsimp only [opAdd] at h
        rename_i xs b' ys d' v vs d ds
        by_cases hl : ds.length + 1 + d'.length ≤ lim
        · rw [if_pos hl] at h
          refine .inr (.inr (.inl ⟨_, _, _, _, rfl, rfl, g.sub.tup hx, g.sub.tup hy, by simp, ?_, fun e => ?_, fun e p hp => ?_⟩))
          · have e1 := rx2.length
            have e2 := ry.length
            simp only [List.length_cons]
            exact lim_ok (by omega)
          · subst e
            cases ry
            rw [List.append_nil] at h
            exact rv_end g h (.tup hx (.cons rx1 rx2))
          · have e1 := Same.updN (o := HO.tup ((v :: vs) ++ ys)) (g.sub.nn hp)
            exact h _ _ _ (g.allocF hp) e1 (.tup (.inl (.inl upd_same)) (((RepL.cons rx1 rx2).append ry).mono e1))
        · rw [if_neg hl] at h; exact h.elim
    | _ => cases rx <;> exact h.elim
  | lst hx rx =>
    cases ry with
    | lst hy ry =>
      dsimp only [opAdd] at h
      rename_i a1 xs ds a2 ys ds'
      by_cases hl : ds.length + ds'.length ≤ lim
      · rw [if_pos hl] at h
        have e1 := rx.length
        have e2 := ry.length
        refine .inr (.inr (.inr ⟨_, _, _, _, rfl, rfl, g.sub.lst hx, g.sub.lst hy, lim_ok (by omega), fun p hp => ?_⟩))
        have e1 := Same.updN (o := HO.lst (xs ++ ys)) (g.sub.nn hp)
        exact h _ _ _ (g.allocF hp) e1 (.lst upd_same ((rx.append ry).mono e1))
      · rw [if_neg hl] at h; exact h.elim
    | _ => exact h.elim
  | _ => exact h.elim
theorem rv_sub : Rv C (rI0 fun i j => .int (i - j)) opSub := by
  intro F0 H0 L s σ F H x y a b Q g rx ry h
  cases rx with
  | int i =>
    cases ry with
    | int j => exact ⟨i, j, rfl, rfl, rv_end g h (.int _)⟩
    | _ => exact h.elim
  | _ => exact h.elim
theorem RepL.repl {K : PySem.W.Frag} {F : Hp} {vs : List V} {ds : List D} (r : RepL K F vs ds) : ∀ n : Nat, RepL K F (List.replicate n vs).flatten (List.replicate n ds).flatten
  | 0 => .nil
  | n + 1 => by
    rw [List.replicate_succ, List.replicate_succ, List.flatten_cons, List.flatten_cons]
    exact r.append (r.repl n)
theorem rv_mul : Rv C (rOr (rI CMulW fun i j => .int (i * j)) rRep) opMul := by
  intro F0 H0 L s σ F H x y a b Q g rx ry h
  cases rx with
  | int i =>
    cases ry with
    | int j =>
      dsimp only [opMul] at h
      by_cases hl : mulOk i j = true
      · rw [if_pos hl] at h
        exact .inl ⟨i, j, rfl, rfl, mulOk.ok hl, rv_end g h (.int _)⟩
      · rw [if_neg hl] at h; exact h.elim
    | _ => exact h.elim
  | lst hx r =>
    rename_i p xs ds
    cases ry with
    | int k =>
      dsimp only [opMul] at h
      by_cases hl : 0 ≤ k ∧ k ≤ 1000 ∧ ds.length ≤ 1000
      · rw [if_pos hl] at h
        refine .inr ⟨p, k, xs, rfl, rfl, g.sub.lst hx, by omega, by omega, ?_, fun l hl2 => ?_⟩
        · rw [r.length]
          have h1 : k.toNat ≤ 1000 := by omega
          have h2 : ds.length * k.toNat ≤ 1000 * 1000 := Nat.mul_le_mul hl.2.2 h1
          exact Nat.le_trans h2 (by rw [sizeLine_eq]; decide)
        · have e1 := Same.updN (o := HO.lst (List.replicate k.toNat xs).flatten) (g.sub.nn hl2)
          exact h _ _ _ (g.allocF hl2) e1 (.lst upd_same ((r.mono e1).repl k.toNat))
      · rw [if_neg hl] at h; exact h.elim
    | _ => exact h.elim
  | _ => exact h.elim
theorem rv_div : Rv C (rI CDivW fun i j => .int (i / j)) opDiv := by
  intro F0 H0 L s σ F H x y a b Q g rx ry h
  cases rx with
  | int i =>
    cases ry with
    | int j =>
      dsimp only [opDiv] at h
      by_cases hl : divOk j = true
      · rw [if_pos hl] at h
        exact ⟨i, j, rfl, rfl, divOk.ok hl, rv_end g h (.int _)⟩
      · rw [if_neg hl] at h; exact h.elim
    | _ => exact h.elim
  | _ => exact h.elim
theorem rv_mod : Rv C (rI (fun _ j => 0 < j) fun i j => .int (i % j)) opMod := by
  intro F0 H0 L s σ F H x y a b Q g rx ry h
  cases rx with
  | int i =>
    cases ry with
    | int j =>
      dsimp only [opMod] at h
      by_cases hl : 0 < j
      · rw [if_pos hl] at h
        exact ⟨i, j, rfl, rfl, hl, rv_end g h (.int _)⟩
      · rw [if_neg hl] at h; exact h.elim
    | _ => exact h.elim
  | _ => exact h.elim
theorem rv_pow : Rv C (rI CPow fun i j => .int (i ^ j.toNat)) opPow := by
  intro F0 H0 L s σ F H x y a b Q g rx ry h
  cases rx with
  | int i =>
    cases ry with
    | int j =>
      dsimp only [opPow] at h
      by_cases hl : powOk i j = true
      · rw [if_pos hl] at h
        exact ⟨i, j, rfl, rfl, powOk.ok hl, rv_end g h (.int _)⟩
      · rw [if_neg hl] at h; exact h.elim
    | _ => exact h.elim
  | _ => exact h.elim
theorem ru_neg' : Ru C (rU fun i => .int (-i)) opNeg := by
  intro F0 H0 L s σ F H x a Q g rx h
  cases rx with
  | int i => exact ⟨i, rfl, rv_end g h (.int _)⟩
  | _ => exact h.elim
theorem rv_eq : Rv C (rEqD C.K) opEq := by
  intro F0 H0 L s σ F H x y a b Q g rx ry h
  dsimp only [opEq] at h
  by_cases hl : (SeqAt.shaped a && SeqAt.shaped b) = true
  · rw [if_pos hl] at h
    rw [Bool.and_eq_true] at hl
    exact ⟨a, b, rx.dp g.sub (SeqAt.canLay_of_shaped hl.1), ry.dp g.sub (SeqAt.canLay_of_shaped hl.2), hl.1, hl.2, rv_end g h (.bl _)⟩
  · rw [if_neg hl] at h; exact h.elim
theorem rv_ne : Rv C (rNeD C.K) opNe := by
  intro F0 H0 L s σ F H x y a b Q g rx ry h
  dsimp only [opNe] at h
  by_cases hl : (SeqAt.shaped a && SeqAt.shaped b) = true
  · rw [if_pos hl] at h
    rw [Bool.and_eq_true] at hl
    exact ⟨a, b, rx.dp g.sub (SeqAt.canLay_of_shaped hl.1), ry.dp g.sub (SeqAt.canLay_of_shaped hl.2), hl.1, hl.2, rv_end g h (.bl _)⟩
  · rw [if_neg hl] at h; exact h.elim
abbrev rLtS : R2 := fun x y H Q => ∃ i j, x = .str i ∧ y = .str j ∧ Q (.bl (decide (i.cps.toList < j.cps.toList))) H
abbrev rLtA : R2 := rOr (rI0 fun i j => .bl (decide (i < j))) rLtS
theorem or_lt : OpR X (compareOp .Lt) rLtA := op_lt.or op_lt_str
theorem rv_lt : Rv C rLtA opLt := by
  intro F0 H0 L s σ F H x y a b Q g rx ry h
  cases rx with
  | int i =>
    cases ry with
    | int j => exact .inl ⟨i, j, rfl, rfl, rv_end g h (.bl _)⟩
    | _ => exact h.elim
  | str i =>
    cases ry with
    | str j => exact .inr ⟨i, j, rfl, rfl, rv_end g h (.bl _)⟩
    | _ => exact h.elim
  | _ => exact h.elim
theorem rv_le : Rv C (rI0 fun i j => .bl (decide (i ≤ j))) opLe := by
  intro F0 H0 L s σ F H x y a b Q g rx ry h
  cases rx with
  | int i =>
    cases ry with
    | int j => exact ⟨i, j, rfl, rfl, rv_end g h (.bl _)⟩
    | _ => exact h.elim
  | _ => exact h.elim
theorem rv_gt : Rv C (rI0 fun i j => .bl (decide (j < i))) opGt := by
  intro F0 H0 L s σ F H x y a b Q g rx ry h
  cases rx with
  | int i =>
    cases ry with
    | int j => exact ⟨i, j, rfl, rfl, rv_end g h (.bl _)⟩
    | _ => exact h.elim
  | _ => exact h.elim
theorem rv_ge : Rv C (rI0 fun i j => .bl (decide (j ≤ i))) opGe := by
  intro F0 H0 L s σ F H x y a b Q g rx ry h
  cases rx with
  | int i =>
    cases ry with
    | int j => exact ⟨i, j, rfl, rfl, rv_end g h (.bl _)⟩
    | _ => exact h.elim
  | _ => exact h.elim
abbrev rIsN : R2 := fun x y H Q => y = .non ∧ Q (.bl (decide (x = .non))) H
abbrev rNotN : R2 := fun x y H Q => y = .non ∧ Q (.bl (!decide (x = .non))) H
abbrev rIsA : R2 := rOr rIsN rIsB
abbrev rIsNotA : R2 := rOr rNotN rNotB
theorem or_is : OpR X (compareOp .Is) rIsA := op_isN.or op_isBl
theorem or_isnot : OpR X (compareOp .IsNot) rIsNotA := op_notN.or op_notBl
theorem rv_is : Rv C rIsA opIs := by
  intro F0 H0 L s σ F H x y a b Q g rx ry h
  cases ry with
  | non =>
    refine .inl ⟨rfl, ?_⟩
    cases rx with
    | non => exact rv_end g h (.bl _)
    | _ => exact rv_end g h (.bl _)
  | bl j =>
    cases rx with
    | bl i => exact .inr ⟨i, j, rfl, rfl, rv_end g h (.bl _)⟩
    | _ => exact h.elim
  | _ => cases rx <;> exact h.elim
theorem rv_isnot : Rv C rIsNotA opIsNot := by
  intro F0 H0 L s σ F H x y a b Q g rx ry h
  cases ry with
  | non =>
    refine .inl ⟨rfl, ?_⟩
    cases rx with
    | non => exact rv_end g h (.bl _)
    | _ => exact rv_end g h (.bl _)
  | bl j =>
    cases rx with
    | bl i => exact .inr ⟨i, j, rfl, rfl, rv_end g h (.bl _)⟩
    | _ => exact h.elim
  | _ => cases rx <;> exact h.elim
abbrev rInS : R2 := fun x y H Q => ∃ i j, x = .str i ∧ y = .str j ∧ Q (.bl (!(Builtin.Str.occurrences j i 0 j.length 1).isEmpty)) H
abbrev rNotInS : R2 := fun x y H Q => ∃ i j, x = .str i ∧ y = .str j ∧ Q (.bl (!(!(Builtin.Str.occurrences j i 0 j.length 1).isEmpty))) H
abbrev rInA (K : PySem.W.Frag) : R2 := rOr (rIn K false) rInS
abbrev rNotInA (K : PySem.W.Frag) : R2 := rOr (rIn K true) rNotInS
theorem or_in : OpR X (compareOp .In) (rInA X.K) := op_in_seq.or op_in_str
theorem or_notin : OpR X (compareOp .NotIn) (rNotInA X.K) := op_notIn_seq.or op_notin_str
theorem rv_in0 : Rv C (rInA C.K) opIn0 := by
  intro F0 H0 L s σ F H x y a b Q g rx ry h
  cases ry with
  | tup hy ry =>
    rename_i p ys ds
    have h' : (match (inSeq a ds).map PyData.bool with
      | some d => ∀ v F' H', Good C F0 H0 L s σ F' H' → Same F F' → Rep C.K F' v d → Q v H'
      | none => False) := by cases a <;> exact h
    unfold inSeq at h'
    by_cases hl : (flatD a && ds.all flatD) = true
    · rw [if_pos hl] at h'
      rw [Bool.and_eq_true] at hl
      obtain ⟨e1, f1⟩ := rep_flat rx hl.1
      obtain ⟨e2, f2⟩ := rep_flats ry hl.2
      refine .inl ⟨p, ys, rfl, .inr (g.sub.tup hy), f1, f2, ?_⟩
      rw [e1, e2]
      exact rv_end g h' (.bl _)
    · rw [if_neg hl] at h'; exact h'.elim
  | lst hy ry =>
    rename_i p ys ds
    have h' : (match (inSeq a ds).map PyData.bool with
      | some d => ∀ v F' H', Good C F0 H0 L s σ F' H' → Same F F' → Rep C.K F' v d → Q v H'
      | none => False) := by cases a <;> exact h
    unfold inSeq at h'
    by_cases hl : (flatD a && ds.all flatD) = true
    · rw [if_pos hl] at h'
      rw [Bool.and_eq_true] at hl
      obtain ⟨e1, f1⟩ := rep_flat rx hl.1
      obtain ⟨e2, f2⟩ := rep_flats ry hl.2
      refine .inl ⟨p, ys, rfl, .inl (SqL.of (g.sub.lst hy)), f1, f2, ?_⟩
      rw [e1, e2]
      exact rv_end g h' (.bl _)
    · rw [if_neg hl] at h'; exact h'.elim
  | str j =>
    cases rx with
    | str i => exact .inr ⟨i, j, rfl, rfl, rv_end g h (.bl _)⟩
    | _ => exact h.elim
  | _ => cases rx <;> exact h.elim
theorem rv_notin0 : Rv C (rNotInA C.K) opNotIn0 := by
  intro F0 H0 L s σ F H x y a b Q g rx ry h
  cases ry with
  | tup hy ry =>
    rename_i p ys ds
    have h' : (match (inSeq a ds).map (fun b => PyData.bool (!b)) with
      | some d => ∀ v F' H', Good C F0 H0 L s σ F' H' → Same F F' → Rep C.K F' v d → Q v H'
      | none => False) := by cases a <;> exact h
    unfold inSeq at h'
    by_cases hl : (flatD a && ds.all flatD) = true
    · rw [if_pos hl] at h'
      rw [Bool.and_eq_true] at hl
      obtain ⟨e1, f1⟩ := rep_flat rx hl.1
      obtain ⟨e2, f2⟩ := rep_flats ry hl.2
      refine .inl ⟨p, ys, rfl, .inr (g.sub.tup hy), f1, f2, ?_⟩
      rw [e1, e2]
      exact rv_end g h' (.bl _)
    · rw [if_neg hl] at h'; exact h'.elim
  | lst hy ry =>
    rename_i p ys ds
    have h' : (match (inSeq a ds).map (fun b => PyData.bool (!b)) with
      | some d => ∀ v F' H', Good C F0 H0 L s σ F' H' → Same F F' → Rep C.K F' v d → Q v H'
      | none => False) := by cases a <;> exact h
    unfold inSeq at h'
    by_cases hl : (flatD a && ds.all flatD) = true
    · rw [if_pos hl] at h'
      rw [Bool.and_eq_true] at hl
      obtain ⟨e1, f1⟩ := rep_flat rx hl.1
      obtain ⟨e2, f2⟩ := rep_flats ry hl.2
      refine .inl ⟨p, ys, rfl, .inl (SqL.of (g.sub.lst hy)), f1, f2, ?_⟩
      rw [e1, e2]
      exact rv_end g h' (.bl _)
    · rw [if_neg hl] at h'; exact h'.elim
  | str j =>
    cases rx with
    | str i => exact .inr ⟨i, j, rfl, rfl, rv_end g h (.bl _)⟩
    | _ => exact h.elim
  | _ => cases rx <;> exact h.elim
theorem ixN_lt {n : Nat} {i : Int} {j : Nat} (h : ixN n i = some j) : j < n := by
  unfold ixN at h
  split at h
  · split at h
    · cases h; omega
    · cases h
  · split at h
    · cases h; omega
    · cases h
theorem atI_rep {K : PySem.W.Frag} {F : Hp} {xs : List V} {ds : List D} {i : Int} {d : D} (r : RepL K F xs ds) (h : atI ds i = some d) : ∃ v, atI xs i = some v ∧ Rep K F v d := by
  unfold atI at h ⊢
  rw [r.length]
  cases q : ixN ds.length i with
  | none => rw [q] at h; cases h
  | some j =>
    rw [q] at h
    exact r.get h
theorem rv_ix0 : Rv C (rIx C.K) opIx0 := by
  intro F0 H0 L s σ F H x y a b Q g rx ry h
  cases ry with
  | int i =>
    cases rx with
    | tup hx rx =>
      rename_i p xs ds
      have h' : (match atI ds i with
        | some d => ∀ v F' H', Good C F0 H0 L s σ F' H' → Same F F' → Rep C.K F' v d → Q v H'
        | none => False) := h
      cases q : atI ds i with
      | none => rw [q] at h'; exact h'.elim
      | some d =>
        rw [q] at h'
        obtain ⟨v, hv, rv⟩ := atI_rep rx q
        exact .inr (.inl ⟨p, xs, i, v, rfl, rfl, g.sub.tup hx, hv, rv_end g h' rv⟩)
    | lst hx rx =>
      rename_i p xs ds
      have h' : (match atI ds i with
        | some d => ∀ v F' H', Good C F0 H0 L s σ F' H' → Same F F' → Rep C.K F' v d → Q v H'
        | none => False) := h
      cases q : atI ds i with
      | none => rw [q] at h'; exact h'.elim
      | some d =>
        rw [q] at h'
        obtain ⟨v, hv, rv⟩ := atI_rep rx q
        exact .inl ⟨p, xs, i, v, rfl, rfl, SqL.of (g.sub.lst hx), hv, rv_end g h' rv⟩
    | str z =>
      dsimp only [opIx0] at h
      by_cases hl : z.length ≤ lim
      · rw [if_pos hl] at h
        cases q : atI z.cps.toList i with
        | none => rw [q] at h; exact h.elim
        | some c =>
          rw [q] at h
          exact .inr (.inr ⟨z, i, c, rfl, rfl, lim_ok hl, q, rv_end g h (.str _)⟩)
      · rw [if_neg hl] at h; exact h.elim
    | _ => exact h.elim
  | _ => cases rx <;> exact h.elim

/-! ### dicts -/
end
def eqK : D → Key → Bool
  | .int i, .inl j => decide (i = j)
  | .str x, .inr y => decide (x = y)
  | _, _ => false
def keyOf : D → Option Key
  | .int i => some (.inl i)
  | .str x => some (.inr x)
  | _ => none
def valD : List (D × D) → Key → Option D
  | [], _ => none
  | (d, x) :: r, k => if eqK d k then some x else valD r k
def hasD (kvs : List (D × D)) (k : Key) : Bool := kvs.any fun p => eqK p.1 k
def putD (kvs : List (D × D)) (k : Key) (v : D) : List (D × D) := if hasD kvs k then kvs.map (fun p => if eqK p.1 k then (p.1, v) else p) else kvs ++ [(kD k, v)]
theorem eqK_kD (a b : Key) : eqK (kD a) b = decide (a = b) := by
  cases a <;> cases b <;> simp [eqK, kD]
theorem keyOf_rep {K : PySem.W.Frag} {F : Hp} {v : V} {d : D} {k : Key} (r : Rep K F v d) (h : keyOf d = some k) : v = kV k ∧ d = kD k := by
  cases r <;> cases h <;> exact ⟨rfl, rfl⟩
section
variable {K : PySem.W.Frag} {F H : Hp}
theorem RepKV.val : ∀ {ks : List (Key × V)} {ds : List (D × D)}, RepKV K F ks ds → ∀ k : Key, (valD ds k = none ∧ valV ks k = none) ∨ ∃ d v, valD ds k = some d ∧ valV ks k = some v ∧ Rep K F v d
  | _, _, .nil, k => .inl ⟨rfl, rfl⟩
  | _, _, .cons (k := k') (v := v) (d := d) (ks := ks) (ds := ds) h r, k => by
    by_cases e : k' = k
    · refine .inr ⟨d, v, ?_, ?_, h⟩
      · simp [valD, eqK_kD, e]
      · exact valV_pos (p := (k', v)) e
    · rw [show valD ((kD k', d) :: ds) k = valD ds k by simp [valD, eqK_kD, e], valV_neg (p := (k', v)) e]
      exact RepKV.val r k
theorem RepKV.length : ∀ {ks : List (Key × V)} {ds : List (D × D)}, RepKV K F ks ds → ks.length = ds.length
  | _, _, .nil => rfl
  | _, _, .cons _ r => congrArg Nat.succ r.length
theorem RepKV.any : ∀ {ks : List (Key × V)} {ds : List (D × D)}, RepKV K F ks ds → ∀ k : Key, (ks.any fun kv => decide (kv.1 = k)) = hasD ds k
  | _, _, .nil, k => rfl
  | _, _, .cons h r, k => by
    show (decide _ || _) = (eqK (kD _) k || _)
    rw [eqK_kD]
    exact congrArg _ (RepKV.any r k)
theorem RepKV.mapPut {v : V} {d : D} (h : Rep K F v d) : ∀ {ks : List (Key × V)} {ds : List (D × D)}, RepKV K F ks ds → ∀ k : Key, RepKV K F (ks.map fun kv => if kv.1 = k then (kv.1, v) else kv) (ds.map fun p => if eqK p.1 k then (p.1, d) else p)
  | _, _, .nil, k => .nil
  | _, _, .cons (k := k') (v := v') (d := d') h' r, k => by
    rw [List.map_cons, List.map_cons]
    by_cases e : k' = k
    · rw [if_pos e, if_pos (by rw [eqK_kD]; simp [e])]
      exact .cons h (RepKV.mapPut h r k)
    · rw [if_neg e, if_neg (by rw [eqK_kD]; simp [e])]
      exact .cons h' (RepKV.mapPut h r k)
theorem RepKV.snoc {k : Key} {v : V} {d : D} (h : Rep K F v d) : ∀ {ks : List (Key × V)} {ds : List (D × D)}, RepKV K F ks ds → RepKV K F (ks ++ [(k, v)]) (ds ++ [(kD k, d)])
  | _, _, .nil => .cons h .nil
  | _, _, .cons h' r => .cons h' (RepKV.snoc h r)
theorem RepKV.put {ks : List (Key × V)} {ds : List (D × D)} {k : Key} {v : V} {d : D} (r : RepKV K F ks ds) (h : Rep K F v d) : RepKV K F (putK ks k v) (putD ds k d) := by
  unfold putK putD
  rw [r.any k]
  split
  · exact r.mapPut h k
  · exact r.snoc h
end
section
variable {T : Type} {C : Ct T} {X : Cx}
abbrev rDGet : R2 := fun x y H Q => ∃ a v, x = .ref a ∧ DGet H a y (some v) ∧ Q v H
abbrev rDIn : R2 := fun y x H Q => ∃ a o, x = .ref a ∧ DGet H a y o ∧ Q (.bl o.isSome) H
abbrev rDNotIn : R2 := fun y x H Q => ∃ a o, x = .ref a ∧ DGet H a y o ∧ Q (.bl (!o.isSome)) H
open PySem.Spec PyProof.Rows in
theorem ix_dict (hu : X.A.units + 1 < cLine) : IxR X rDGet := by
  intro value slice pins s σ H x y v u Q I rx ry h hs
  obtain ⟨a, w, rfl, g, q⟩ := h
  obtain rfl : v = Value.ref a := rx
  have hT := dict_typeIs I g
  unfold subscriptTail
  refine wpAny_bind ?_
  rw [getitemInPython_of_ne hT.not_modules]
  refine wpAny_bind (wpAny_specialOf hT PySem.F.slot_dict_getitem.lookup ?_)
  have fin : wpAny (model X.prog X.w) X.A (subscripted slice false (.ref a) u) (fun r s₃ => wpAny (model X.prog X.w) X.A (letTemporaryGo value (.ref a) r >>= fun _ => pure r) (EP X pins σ Q) X.xe s₃) X.xe s := by
    rw [hs]
    exact wpAny_operating (d_getItem hu I g ry fun w' s' I' rw' => wpAny_bind (wpAny_letTemporaryGo (wpAny_pure ⟨w, H, I', rw', q⟩)))
  first
    | exact wpAny_pure (wpAny_bind fin)
    | exact wpAny_bind (wpAny_pure (wpAny_bind fin))
    | exact wpAny_bind fin
theorem op_din (hu : X.A.units + 1 < cLine) : OpR X (compareOp .In) rDIn := by
  intro pins s σ H x y v u Q I rx ry h
  obtain ⟨a, o, rfl, g, q⟩ := h
  obtain rfl : u = Value.ref a := ry
  exact d_in hu I g rx fun s' I' => ⟨.bl o.isSome, H, I', rfl, q⟩
theorem op_dnotin (hu : X.A.units + 1 < cLine) : OpR X (compareOp .NotIn) rDNotIn := by
  intro pins s σ H x y v u Q I rx ry h
  obtain ⟨a, o, rfl, g, q⟩ := h
  obtain rfl : u = Value.ref a := ry
  exact d_notIn hu I g rx fun s' I' => ⟨.bl (!o.isSome), H, I', rfl, q⟩
def opIx : D → D → Option D
  | .dict kvs, y => (keyOf y).bind (valD kvs)
  | x, y => opIx0 x y
def opIn : D → D → Option D
  | x, .dict kvs => (keyOf x).map fun k => .bool (valD kvs k).isSome
  | x, y => opIn0 x y
def opNotIn : D → D → Option D
  | x, .dict kvs => (keyOf x).map fun k => .bool (!(valD kvs k).isSome)
  | x, y => opNotIn0 x y
abbrev rIxA (K : PySem.W.Frag) : R2 := rOr (rIx K) rDGet
abbrev rInD (K : PySem.W.Frag) : R2 := rOr (rInA K) rDIn
abbrev rNotInD (K : PySem.W.Frag) : R2 := rOr (rNotInA K) rDNotIn
theorem dget_case {F0 H0 F H : Hp} {L : Nat → Option Addr} {s : S T} {σ : L2.St} {Q : VK} {p : Addr} {ks : List (Key × V)} {kvs : List (D × D)} {y : V} {b : D} (g : Good C F0 H0 L s σ F H) (hp : Rd H p (.dK ks)) (r : RepKV C.K F ks kvs) (ry : Rep C.K F y b)
    (h : match (keyOf b).bind (valD kvs) with
      | some d => ∀ v F' H', Good C F0 H0 L s σ F' H' → Same F F' → Rep C.K F' v d → Q v H'
      | none => False) : rDGet (.ref p) y H Q := by
  cases e : keyOf b with
  | none => rw [e] at h; exact h.elim
  | some k =>
    rw [e] at h
    obtain ⟨ey, _⟩ := keyOf_rep ry e
    dsimp only [Option.bind_some] at h
    rcases r.val k with ⟨e1, _⟩ | ⟨d, v, e1, e2, rv⟩
    · rw [e1] at h; exact h.elim
    · rw [e1] at h
      exact ⟨p, v, rfl, .inl ⟨ks, k, hp, ey, e2.symm⟩, rv_end g h rv⟩
theorem rv_ix : Rv C (rIxA C.K) opIx := by
  intro F0 H0 L s σ F H x y a b Q g rx ry h
  cases rx with
  | dic hx r => exact .inr (dget_case g (g.sub.dic hx) r ry h)
  | non => exact .inl (rv_ix0 _ _ _ _ _ _ _ _ _ _ _ _ g .non ry h)
  | bl z => exact .inl (rv_ix0 _ _ _ _ _ _ _ _ _ _ _ _ g (.bl z) ry h)
  | int z => exact .inl (rv_ix0 _ _ _ _ _ _ _ _ _ _ _ _ g (.int z) ry h)
  | str z => exact .inl (rv_ix0 _ _ _ _ _ _ _ _ _ _ _ _ g (.str z) ry h)
  | lst e r => exact .inl (rv_ix0 _ _ _ _ _ _ _ _ _ _ _ _ g (.lst e r) ry h)
  | tup e r => exact .inl (rv_ix0 _ _ _ _ _ _ _ _ _ _ _ _ g (.tup e r) ry h)
theorem rv_in : Rv C (rInD C.K) opIn := by
  intro F0 H0 L s σ F H x y a b Q g rx ry h
  cases ry with
  | dic hy r =>
    rename_i p ks kvs
    have h' : (match (keyOf a).map fun k => PyData.bool (valD kvs k).isSome with
      | some d => ∀ v F' H', Good C F0 H0 L s σ F' H' → Same F F' → Rep C.K F' v d → Q v H'
      | none => False) := by cases a <;> exact h
    cases e : keyOf a with
    | none => rw [e] at h'; exact h'.elim
    | some k =>
      rw [e] at h'
      obtain ⟨ey, _⟩ := keyOf_rep rx e
      refine .inr ⟨p, valV ks k, rfl, .inl ⟨ks, k, g.sub.dic hy, ey, rfl⟩, ?_⟩
      have e3 : (valV ks k).isSome = (valD kvs k).isSome := by
        rcases r.val k with ⟨e1, e2⟩ | ⟨d, v, e1, e2, rv⟩ <;> rw [e1, e2] <;> rfl
      rw [e3]
      exact rv_end g h' (.bl _)
  | non => exact .inl (rv_in0 _ _ _ _ _ _ _ _ _ _ _ _ g rx .non (by cases a <;> exact h))
  | bl z => exact .inl (rv_in0 _ _ _ _ _ _ _ _ _ _ _ _ g rx (.bl z) (by cases a <;> exact h))
  | int z => exact .inl (rv_in0 _ _ _ _ _ _ _ _ _ _ _ _ g rx (.int z) (by cases a <;> exact h))
  | str z => exact .inl (rv_in0 _ _ _ _ _ _ _ _ _ _ _ _ g rx (.str z) (by cases a <;> exact h))
  | lst e r => exact .inl (rv_in0 _ _ _ _ _ _ _ _ _ _ _ _ g rx (.lst e r) (by cases a <;> exact h))
  | tup e r => exact .inl (rv_in0 _ _ _ _ _ _ _ _ _ _ _ _ g rx (.tup e r) (by cases a <;> exact h))
theorem rv_notin : Rv C (rNotInD C.K) opNotIn := by
  intro F0 H0 L s σ F H x y a b Q g rx ry h
  cases ry with
  | dic hy r =>
    rename_i p ks kvs
    have h' : (match (keyOf a).map fun k => PyData.bool (!(valD kvs k).isSome) with
      | some d => ∀ v F' H', Good C F0 H0 L s σ F' H' → Same F F' → Rep C.K F' v d → Q v H'
      | none => False) := by cases a <;> exact h
    cases e : keyOf a with
    | none => rw [e] at h'; exact h'.elim
    | some k =>
      rw [e] at h'
      obtain ⟨ey, _⟩ := keyOf_rep rx e
      refine .inr ⟨p, valV ks k, rfl, .inl ⟨ks, k, g.sub.dic hy, ey, rfl⟩, ?_⟩
      have e3 : (valV ks k).isSome = (valD kvs k).isSome := by
        rcases r.val k with ⟨e1, e2⟩ | ⟨d, v, e1, e2, rv⟩ <;> rw [e1, e2] <;> rfl
      rw [e3]
      exact rv_end g h' (.bl _)
  | non => exact .inl (rv_notin0 _ _ _ _ _ _ _ _ _ _ _ _ g rx .non (by cases a <;> exact h))
  | bl z => exact .inl (rv_notin0 _ _ _ _ _ _ _ _ _ _ _ _ g rx (.bl z) (by cases a <;> exact h))
  | int z => exact .inl (rv_notin0 _ _ _ _ _ _ _ _ _ _ _ _ g rx (.int z) (by cases a <;> exact h))
  | str z => exact .inl (rv_notin0 _ _ _ _ _ _ _ _ _ _ _ _ g rx (.str z) (by cases a <;> exact h))
  | lst e r => exact .inl (rv_notin0 _ _ _ _ _ _ _ _ _ _ _ _ g rx (.lst e r) (by cases a <;> exact h))
  | tup e r => exact .inl (rv_notin0 _ _ _ _ _ _ _ _ _ _ _ _ g rx (.tup e r) (by cases a <;> exact h))
end
end Pm

set_option Elab.async false
set_option linter.all false
set_option maxRecDepth 100000
/-! Calls, targets, statements, loops, comprehensions. -/
namespace Pm
open PySem L2

/-! ### a peek at a slot that is not frozen -/
def Rsh (K : PySem.W.Frag) (F H : Hp) (v : V) (d : D) : Prop :=
  Rep K F v d ∨ (∃ a xs ds, v = .ref a ∧ d = .list ds ∧ H a = some (.lst xs) ∧ RepL K F xs ds) ∨ ∃ a ks ds, v = .ref a ∧ d = .dict ds ∧ H a = some (.dK ks) ∧ RepKV K F ks ds
def peek : Slot → Option D
  | .fz d => some d
  | .ol xs => some (.list xs)
  | .od kvs => some (.dict kvs)
  | .bw xs => some (.list xs)
  | _ => none
section
variable {T : Type} {C : Ct T} {W : WX} {F0 H0 F F1 H : Hp} {L : Nat → Option Addr} {s : S T} {σ : L2.St} {α β : Type}
theorem Good.peek (g : Good C F0 H0 L s σ F H) {i : Nat} {x : Slot} {d : D} (hx : s.env[i]? = some x) (hd : peek x = some d) : ∃ v, σ[i]? = some (some v) ∧ Rsh C.K F H v d := by
  have k := g.slots i x hx
  cases x with
  | un => cases hd
  | pt n => cases hd
  | fz d' =>
    cases hd
    obtain ⟨v, h1, h2⟩ := k
    exact ⟨v, h1, .inl h2⟩
  | ol xs =>
    cases hd
    obtain ⟨p, vs, h1, h2, h3, h4, h5⟩ := k
    exact ⟨_, h1, .inr (.inl ⟨p, vs, xs, rfl, rfl, h4, h5⟩)⟩
  | od xs =>
    cases hd
    obtain ⟨p, vs, h1, h2, h3, h4, h5⟩ := k
    exact ⟨_, h1, .inr (.inr ⟨p, vs, xs, rfl, rfl, h4, h5⟩)⟩
  | bw xs =>
    cases hd
    obtain ⟨q, vs, h1, h2, h3, h4, h5⟩ := k
    exact ⟨_, h2, .inr (.inl ⟨q, vs, xs, rfl, rfl, g.base _ _ h4 h3, h5⟩)⟩
/-- operations whose first operand is peeked at -/
def Rw {T : Type} (C : Ct T) (r : R2) (op : D → D → Option D) : Prop := ∀ F0 H0 L (s : S T) σ F H x y a b (Q : VK), Good C F0 H0 L s σ F H → Rsh C.K F H x a → Rep C.K F y b →
  (match op a b with
    | some d => ∀ v F' H', Good C F0 H0 L s σ F' H' → Same F F' → Rep C.K F' v d → Q v H'
    | none => False) → r x y H Q
def Rwu {T : Type} (C : Ct T) (r : V → Hp → VK → Prop) (op : D → Option D) : Prop := ∀ F0 H0 L (s : S T) σ F H x a (Q : VK), Good C F0 H0 L s σ F H → Rsh C.K F H x a →
  (match op a with
    | some d => ∀ v F' H', Good C F0 H0 L s σ F' H' → Same F F' → Rep C.K F' v d → Q v H'
    | none => False) → r x H Q
theorem Rw.rv {r : R2} {op : D → D → Option D} (h : Rw C r op) : Rv C r op := fun F0 H0 L s σ F H x y a b Q g rx ry => h F0 H0 L s σ F H x y a b Q g (.inl rx) ry
theorem Rwu.ru {r : V → Hp → VK → Prop} {op : D → Option D} (h : Rwu C r op) : Ru C r op := fun F0 H0 L s σ F H x a Q g rx => h F0 H0 L s σ F H x a Q g (.inl rx)
def slotD {T : Type} (i : Nat) : M T D := fun s => match s.env[i]? with
  | some x => (match peek x with | some d => .ok d s | none => .stuck)
  | none => .stuck
/-- x op e, x a slot's name: x is looked at behind e -/
def mOpP {T : Type} (op : D → D → Option D) (i : Nat) (fb : M T D) : M T D := mBind (slotD i) fun _ => mBind fb fun b => mBind (slotD i) fun a => mLift (op a b)
def mUnP {T : Type} (op : D → Option D) (i : Nat) : M T D := mBind (slotD i) fun a => mLift (op a)
theorem po_slotD {i : Nat} {G : D → S T → Hp → Hp → Prop} (h : Po C W F0 H0 L F σ G (slotD i s)) : ∃ x d, s.env[i]? = some x ∧ Pm.peek x = some d ∧ Po C W F0 H0 L F σ G (mRet d s) := by
  unfold slotD at h
  cases q : s.env[i]? with
  | none => rw [q] at h; exact h.elim
  | some x =>
    rw [q] at h
    cases q2 : Pm.peek x with
    | none => simp only [q2] at h; exact h.elim
    | some d => simp only [q2] at h; exact ⟨x, d, rfl, q2, h⟩
theorem sv_opP {r : R2} {op : D → D → Option D} {tb : TE} {fb : M T D} {i : Nat} (hb : Sv C W tb fb) (hr : Rw C r op) : Sv C W (tOp r (tVar i) tb) (mOpP op i fb) := by
  intro F0 H0 L s σ F H Q g h
  obtain ⟨x0, d0, hx0, hd0, h0⟩ := po_slotD (po_bind h)
  obtain ⟨v, hv, _⟩ := g.peek hx0 hd0
  refine ⟨v, hv, hb _ _ _ _ _ _ _ _ g (po_imp (po_bind (po_ret h0 g)) fun b s1 F1 H1 g1 e1 h1 w rw' => ?_)⟩
  obtain ⟨x, d, hx, hd, h2⟩ := po_slotD (po_bind h1)
  obtain ⟨d', q, h4⟩ := po_lift (po_ret h2 g1)
  obtain ⟨v', hv', rs⟩ := g1.peek hx hd
  rw [hv] at hv'; cases hv'
  refine hr _ _ _ _ _ _ _ _ _ _ _ _ g1 rs rw' ?_
  rw [q]
  exact fun v' F' H' g' e' r' => h4 F' H' g' e' v' r'
theorem sv_unP {r : V → Hp → VK → Prop} {op : D → Option D} {i : Nat} (hr : Rwu C r op) : Sv C W (tUn r (tVar i)) (mUnP op i) := by
  intro F0 H0 L s σ F H Q g h
  obtain ⟨x, d, hx, hd, h2⟩ := po_slotD (po_bind h)
  obtain ⟨v, hv, rs⟩ := g.peek hx hd
  obtain ⟨d', q, h4⟩ := po_lift (po_ret h2 g)
  refine ⟨v, hv, hr _ _ _ _ _ _ _ _ _ _ g rs ?_⟩
  rw [q]
  exact fun v' F' H' g' e' r' => h4 F' H' g' e' v' r'
/-! ### built-ins of one, of two arguments -/
theorem sv_cb1 {r : List V → Hp → VK → Prop} {op : D → Option D} {ta : TE} {fa : M T D} (ha : Sv C W ta fa) (hr : Ru C (fun x => r [x]) op) : Sv C W (tCB r (tCons ta tNil)) (mUn op fa) := sv_un ha hr
theorem sv_cb1P {r : List V → Hp → VK → Prop} {op : D → Option D} {i : Nat} (hr : Rwu C (fun x => r [x]) op) : Sv C W (tCB r (tCons (tVar i) tNil)) (mUnP op i) := sv_unP hr
theorem sv_cb2 {r : List V → Hp → VK → Prop} {op : D → D → Option D} {ta tb : TE} {fa fb : M T D} (ha : Sv C W ta fa) (hb : Sv C W tb fb) (hr : Rv C (fun x y => r [x, y]) op) : Sv C W (tCB r (tCons ta (tCons tb tNil))) (mOp op fa fb) := sv_op (r := fun x y => r [x, y]) ha hb hr
end

/-! ### the built-ins by values -/
section
variable {T : Type} {C : Ct T} {X : Cx}
theorem CallR.or {f : Value} {r r' : List V → Hp → VK → Prop} (h : CallR X f r) (h' : CallR X f r') : CallR X f (fun xs H Q => r xs H Q ∨ r' xs H Q) := fun pins s σ H xs us Q I rx q => q.elim (h pins s σ H xs us Q I rx) (h' pins s σ H xs us Q I rx)
abbrev rcOr (r r' : List V → Hp → VK → Prop) : List V → Hp → VK → Prop := fun xs H Q => r xs H Q ∨ r' xs H Q
abbrev rLen1 (K : PySem.W.Frag) : List V → Hp → VK → Prop := fun xs H Q => ∃ x n, xs = [x] ∧ LenV K x H n ∧ Q (.int n) H
abbrev rLen2 : List V → Hp → VK → Prop := fun xs H Q => ∃ a kvs, xs = [V.ref a] ∧ Rd H a (.dK kvs) ∧ Q (.int kvs.length) H
theorem call_lenR {X : Cx} : CallR X (.builtin "len") rLen2 := by
  intro pins s σ H xs us Q I r h
  obtain ⟨a, kvs, rfl, ha, q⟩ := h
  obtain ⟨u, rfl, ru⟩ := vals1 r
  cases ru
  exact d_len I ha fun t s' I' => ⟨.int kvs.length, H, I', ⟨t, rfl⟩, q⟩
abbrev rLenA (K : PySem.W.Frag) := rcOr (rLen1 K) rLen2
theorem cr_len : CallR X (.builtin "len") (rLenA X.K) := CallR.or call_len call_lenR
def opLen : D → Option D
  | .tuple xs => some (.int xs.length)
  | .list xs => some (.int xs.length)
  | .str z => if z.length ≤ lim then some (.int z.length) else none
  | .dict xs => some (.int xs.length)
  | _ => none
theorem rw_len : Rwu C (fun x => rLenA C.K [x]) opLen := by
  intro F0 H0 L s σ F H x a Q g rx h
  rcases rx with rx | ⟨p, xs, ds, rfl, rfl, hp, r⟩ | ⟨p, xs, ds, rfl, rfl, hp, r⟩
  · cases rx with
    | tup hx rx => exact .inl ⟨_, _, rfl, .inr ⟨_, g.sub.tup hx, rx.length.symm⟩, rv_end g h (.int _)⟩
    | lst hx rx => exact .inl ⟨_, _, rfl, .inl ⟨_, SqL.of (g.sub.lst hx), rx.length.symm⟩, rv_end g h (.int _)⟩
    | str z =>
      dsimp only [opLen] at h
      by_cases hl : z.length ≤ lim
      · rw [if_pos hl] at h
        exact .inl ⟨.str z, z.length, rfl, ⟨lim_ok hl, rfl⟩, rv_end g h (.int _)⟩
      · rw [if_neg hl] at h; exact h.elim
    | dic hx rx =>
      refine .inr ⟨_, _, rfl, g.sub.dic hx, ?_⟩
      rw [rx.length]
      exact rv_end g h (.int _)
    | _ => exact h.elim
  · exact .inl ⟨_, _, rfl, .inl ⟨_, SqL.of hp, r.length.symm⟩, rv_end g h (.int _)⟩
  · refine .inr ⟨_, _, rfl, .inl hp, ?_⟩
    rw [r.length]
    exact rv_end g h (.int _)
theorem rw_ne : Rw C (rNeD C.K) opNe := by
  intro F0 H0 L s σ F H x y a b Q g rx ry h
  rcases rx with rx | ⟨p, xs, ds, rfl, rfl, hp, r⟩ | ⟨p, xs, ds, rfl, rfl, hp, r⟩
  · exact rv_ne F0 H0 L s σ F H x y a b Q g rx ry h
  · dsimp only [opNe] at h
    by_cases hl : (SeqAt.shaped (.list ds) && SeqAt.shaped b) = true
    · rw [if_pos hl] at h
      rw [Bool.and_eq_true] at hl
      have c := SeqAt.canLay_of_shaped hl.1
      unfold PyData.canLay0 at c
      exact ⟨_, b, .lst (SqL.of hp) (r.dp g.sub c), ry.dp g.sub (SeqAt.canLay_of_shaped hl.2), hl.1, hl.2, rv_end g h (.bl _)⟩
    · rw [if_neg hl] at h; exact h.elim
  · dsimp only [opNe] at h
    rw [show SeqAt.shaped (.dict ds) = false from rfl] at h
    exact h.elim
theorem rw_eq : Rw C (rEqD C.K) opEq := by
  intro F0 H0 L s σ F H x y a b Q g rx ry h
  rcases rx with rx | ⟨p, xs, ds, rfl, rfl, hp, r⟩ | ⟨p, xs, ds, rfl, rfl, hp, r⟩
  · exact rv_eq F0 H0 L s σ F H x y a b Q g rx ry h
  · dsimp only [opEq] at h
    by_cases hl : (SeqAt.shaped (.list ds) && SeqAt.shaped b) = true
    · rw [if_pos hl] at h
      rw [Bool.and_eq_true] at hl
      have c := SeqAt.canLay_of_shaped hl.1
      unfold PyData.canLay0 at c
      exact ⟨_, b, .lst (SqL.of hp) (r.dp g.sub c), ry.dp g.sub (SeqAt.canLay_of_shaped hl.2), hl.1, hl.2, rv_end g h (.bl _)⟩
    · rw [if_neg hl] at h; exact h.elim
  · dsimp only [opEq] at h
    rw [show SeqAt.shaped (.dict ds) = false from rfl] at h
    exact h.elim
theorem rw_ix : Rw C (rIxA C.K) opIx := by
  intro F0 H0 L s σ F H x y a b Q g rx ry h
  rcases rx with rx | ⟨p, xs, ds, rfl, rfl, hp, r⟩ | ⟨p, xs, ds, rfl, rfl, hp, r⟩
  · exact rv_ix F0 H0 L s σ F H x y a b Q g rx ry h
  · cases ry with
    | int i =>
      have h' : (match atI ds i with
        | some d => ∀ v F' H', Good C F0 H0 L s σ F' H' → Same F F' → Rep C.K F' v d → Q v H'
        | none => False) := h
      cases q : atI ds i with
      | none => rw [q] at h'; exact h'.elim
      | some d =>
        rw [q] at h'
        obtain ⟨v, hv, rv⟩ := atI_rep r q
        exact .inl (.inl ⟨p, xs, i, v, rfl, rfl, SqL.of hp, hv, rv_end g h' rv⟩)
    | _ => exact h.elim
  · exact .inr (dget_case g (.inl hp) r ry h)
/-- isinstance of a built-in class -/
inductive Ty | int | bool | str | tuple | list | dict
def Ty.nm : Ty → String
  | .int => "int" | .bool => "bool" | .str => "str" | .tuple => "tuple" | .list => "list" | .dict => "dict"
def isTy : Ty → D → Bool
  | .int, .int _ => true
  | .int, .bool _ => true
  | .bool, .bool _ => true
  | .str, .str _ => true
  | .tuple, .tuple _ => true
  | .list, .list _ => true
  | .dict, .dict _ => true
  | _, _ => false
def tyN : D → String
  | .none => "NoneType" | .bool _ => "bool" | .int _ => "int" | .str _ => "str" | .tuple _ => "tuple" | .list _ => "list" | .dict _ => "dict"
def tyTab (a : String) (t : Ty) (b : Bool) : Bool := decide (kitB a t.nm = some b)
theorem kit_tab (d : D) (t : Ty) : kitB (tyN d) t.nm = some (isTy t d) := by
  cases d <;> cases t <;> (simp only [tyN, Ty.nm, isTy]; decide +kernel)
theorem rep_ty {K : PySem.W.Frag} {F H : Hp} {v : V} {d : D} (u : Sub F H) (r : Rep K F v d) : TyX K H v (.type (tyN d)) := by
  cases r with
  | non => exact .base .non
  | bl b => exact .base (.bl b)
  | int i => exact .base (.int i)
  | str x => exact .base (.str x)
  | lst h r => exact .base (.lst (u.lst h))
  | tup h r =>
    rcases u.tup h with (h | ⟨o, h⟩) | ⟨o, its, n, h1, h2, _⟩
    · exact .base (.tup h)
    · exact .fTuple h
    · exact .kTuple h1 h2
  | dic h r =>
    rcases u.dic h with h | ⟨o, h⟩
    · exact .base (.dK h)
    · exact .fDict h
def mIsi {T : Type} (t : Ty) (f : M T D) : M T D := mUn (fun d => some (.bool (isTy t d))) f
theorem sv_isi {W : WX} {ta : TE} {fa : M T D} {n : String} (t : Ty) (hn : n = t.nm) (ha : Sv C W ta fa) : Sv C W (tCB (rIsi C.K) (tCons ta (tCons (tC (.ty n)) tNil))) (mIsi t fa) := by
  subst hn
  refine sv_un (r := fun x => rIsi C.K [x, .ty t.nm]) ha ?_
  intro F0 H0 L s σ F H x a Q g rx h
  exact ⟨x, .ty t.nm, _, _, _, rfl, .ty _, rep_ty g.sub rx, kit_ty (kit_tab a t), rv_end g h (.bl _)⟩
def opAll : D → Option D
  | .list xs => (dBools xs).map fun bs => .bool (bs.all id)
  | _ => none
def opAny : D → Option D
  | .list xs => (dBools xs).map fun bs => .bool (bs.any id)
  | _ => none
theorem ru_all : Ru C (fun x => rAll C.K [x]) opAll := by
  intro F0 H0 L s σ F H x a Q g rx h
  cases rx with
  | lst hx rx =>
    dsimp only [opAll] at h
    rename_i p xs ds
    cases q : dBools ds with
    | none => rw [q] at h; exact h.elim
    | some bs =>
      rw [q] at h
      have e := rep_bools rx q
      subst e
      exact ⟨p, bs, rfl, SqL.of (g.sub.lst hx), rv_end g h (.bl _)⟩
  | _ => exact h.elim
theorem ru_any : Ru C (fun x => rAny C.K [x]) opAny := by
  intro F0 H0 L s σ F H x a Q g rx h
  cases rx with
  | lst hx rx =>
    dsimp only [opAny] at h
    rename_i p xs ds
    cases q : dBools ds with
    | none => rw [q] at h; exact h.elim
    | some bs =>
      rw [q] at h
      have e := rep_bools rx q
      subst e
      exact ⟨p, bs, rfl, SqL.of (g.sub.lst hx), rv_end g h (.bl _)⟩
  | _ => exact h.elim
def opSum : D → Option D
  | .list xs => (dInts xs).map fun ns => .int ns.sum
  | _ => none
theorem ru_sum : Ru C (fun x => rSum C.K [x]) opSum := by
  intro F0 H0 L s σ F H x a Q g rx h
  cases rx with
  | lst hx rx =>
    dsimp only [opSum] at h
    rename_i p xs ds
    cases q : dInts ds with
    | none => rw [q] at h; exact h.elim
    | some bs =>
      rw [q] at h
      have e := rep_ints rx q
      subst e
      exact ⟨p, bs, rfl, SqL.of (g.sub.lst hx), rv_end g h (.int _)⟩
  | _ => exact h.elim
abbrev rAbs : List V → Hp → VK → Prop := fun xs H Q => ∃ i, xs = [.int i] ∧ Q (.int (if i < 0 then -i else i)) H
def opAbs : D → Option D
  | .int i => some (.int (if i < 0 then -i else i))
  | _ => none
theorem ru_abs : Ru C (fun x => rAbs [x]) opAbs := by
  intro F0 H0 L s σ F H x a Q g rx h
  cases rx with
  | int i => exact ⟨i, rfl, rv_end g h (.int _)⟩
  | _ => exact h.elim
abbrev rMin2 : List V → Hp → VK → Prop := fun xs H Q => ∃ i j, xs = [.int i, .int j] ∧ Q (.int (if j < i then j else i)) H
def opMin2 : D → D → Option D
  | .int i, .int j => some (.int (if j < i then j else i))
  | _, _ => none
theorem rv_min2 : Rv C (fun x y => rMin2 [x, y]) opMin2 := by
  intro F0 H0 L s σ F H x y a b Q g rx ry h
  cases rx with
  | int i =>
    cases ry with
    | int j => exact ⟨i, j, rfl, rv_end g h (.int _)⟩
    | _ => exact h.elim
  | _ => exact h.elim
abbrev rTupOf (K : PySem.W.Frag) : List V → Hp → VK → Prop := fun xs H Q => ∃ p ys, xs = [.ref p] ∧ ((SqL K H p ys ∧ ∀ l, H l = none → Q (.ref l) (upd H l (.tup ys))) ∨ (SqT K H p ys ∧ Q (.ref p) H))
def opTuple : D → Option D
  | .list xs => some (.tuple xs)
  | .tuple xs => some (.tuple xs)
  | _ => none
theorem rw_tuple : Rwu C (fun x => rTupOf C.K [x]) opTuple := by
  intro F0 H0 L s σ F H x a Q g rx h
  rcases rx with rx | ⟨p, xs, ds, rfl, rfl, hp, r⟩ | ⟨p, xs, ds, rfl, rfl, hp, r⟩
  · cases rx with
    | tup hx rx => exact ⟨_, _, rfl, .inr ⟨g.sub.tup hx, rv_end g h (.tup hx rx)⟩⟩
    | lst hx rx =>
      rename_i p xs ds
      refine ⟨_, _, rfl, .inl ⟨SqL.of (g.sub.lst hx), fun l hl => ?_⟩⟩
      have e1 := Same.updN (o := HO.tup xs) (g.sub.nn hl)
      exact h _ _ _ (g.allocF hl) e1 (.tup (.inl (.inl upd_same)) (rx.mono e1))
    | _ => exact h.elim
  · refine ⟨_, _, rfl, .inl ⟨SqL.of hp, fun l hl => ?_⟩⟩
    have e1 := Same.updN (o := HO.tup xs) (g.sub.nn hl)
    exact h _ _ _ (g.allocF hl) e1 (.tup (.inl (.inl upd_same)) (r.mono e1))
  · exact h.elim
end
end Pm

set_option Elab.async false
set_option linter.all false
set_option maxRecDepth 100000
/-! Calls of defs, slices, targets, statements, loops. -/
namespace Pm
open PySem L2

/-! ### defs -/
inductive Rp where
  | ok (d : D) | exc (c : Nat) | stuck
/-- behind a call of a def that keeps all that was tracked -/
structure Aft (F H F' H' : Hp) : Prop where
  ex : Same F F'
  sub : Sub F' H'
  nw : ∀ a o, F' a = some o → F a = some o ∨ H a = none
  st : Same H H'
def spP (K : PySem.W.Frag) (cls : Nat → Addr) (f : List D → Rp) : Sp := fun vs H Q E => ∃ F ds, Sub F H ∧ RepL K F vs ds ∧
  match f ds with
  | .ok d => ∀ v F' H', Aft F H F' H' → Rep K F' v d → Q v H'
  | .exc c => ∀ F' H', Aft F H F' H' → E (.ref (cls c)) none H'
  | .stuck => False
def mCall {T : Type} (f : List D → Rp) (fr : M T (List D)) : M T D := mBind fr fun ds s => match f ds with
  | .ok d => .ok d s
  | .exc c => .exc c s
  | .stuck => .stuck
section
variable {T : Type} {C : Ct T} {W : WX} {F0 H0 F F1 H : Hp} {L : Nat → Option Addr} {s : S T} {σ : L2.St} {α β : Type}
theorem Good.aft {F' H' : Hp} (g : Good C F0 H0 L s σ F H) (a : Aft F H F' H') : Good C F0 H0 L s σ F' H' := g.grow a.ex a.sub a.st a.nw
theorem sv_callP {f : List D → Rp} {tr : TA} {fr : M T (List D)} (ha : Sa C W tr fr) : Sv C W (tCallS (spP C.K C.cls f) (WE W) tr) (mCall f fr) := by
  intro F0 H0 L s σ F H Q g h
  refine ha _ _ _ _ _ _ _ _ g (po_imp (po_bind h) fun ds s1 F1 H1 g1 e1 h1 vs rv => ?_)
  refine ⟨F1, ds, g1.sub, rv, ?_⟩
  cases q : f ds with
  | ok d =>
    simp only [q] at h1
    exact fun v F' H' a r => h1 F' H' (g1.aft a) a.ex v r
  | exc c =>
    simp only [q] at h1
    exact fun F' H' a => h1 F' H' (g1.aft a) a.ex
  | stuck => simp only [q] at h1; exact h1.elim
/-! ### slices -/
abbrev So {T : Type} (C : Ct T) (W : WX) (t : TO) (f : M T (Option Int)) : Prop := ∀ F0 H0 L s σ F H (Q : Option Int → Hp → Prop), Good C F0 H0 L s σ F H → Po C W F0 H0 L F σ (fun o _ _ H' => Q o H') (f s) → t σ H Q
def asI : D → Option Int
  | .int i => some i
  | _ => none
theorem so_none : So C W tNoPart (mRet none) := fun F0 H0 L s σ F H Q g h => po_ret h g
def mSome {T : Type} (f : M T D) : M T (Option Int) := mBind f fun d => mLift ((asI d).map some)
theorem so_some {ta : TE} {fa : M T D} (ha : Sv C W ta fa) : So C W (tPart ta) (mSome fa) := by
  intro F0 H0 L s σ F H Q g h
  refine ha _ _ _ _ _ _ _ _ g (po_imp (po_bind h) fun d s1 F1 H1 g1 e1 h1 v rv => ?_)
  obtain ⟨o, q, h2⟩ := po_lift h1
  cases rv with
  | int i => cases q; exact ⟨i, rfl, po_ret h2 g1⟩
  | _ => cases q
def cutD (xs : List D) (lo hi : Option Int) : List D := (xs.drop (HT.sIx xs.length 0 lo)).take (HT.sIx xs.length xs.length hi - HT.sIx xs.length 0 lo)
def opSl (x : D) (lo hi : Option Int) : Option D := match x with
  | .list xs => some (.list (cutD xs lo hi))
  | .tuple xs => if HT.sIx xs.length 0 lo = 0 ∧ HT.sIx xs.length xs.length hi = xs.length then none else some (.tuple (cutD xs lo hi))
  | .str z => if z.length ≤ lim then some (.str (cutS z lo hi)) else none
  | _ => none
abbrev rSlA (K : PySem.W.Frag) : V → Option Int → Option Int → Hp → VK → Prop := fun x lo hi H Q => rSlL K x lo hi H Q ∨ rSlT K x lo hi H Q ∨ rSlS x lo hi H Q
theorem SlR.or {X : Cx} {r r' : V → Option Int → Option Int → Hp → VK → Prop} (h : SlR X r) (h' : SlR X r') : SlR X (fun x lo hi H Q => r x lo hi H Q ∨ r' x lo hi H Q) := fun pins s σ H x v vl vu l u sl Q I rx hs pl pu q =>
  q.elim (fun q => h pins s σ H x v vl vu l u sl Q I rx hs pl pu q) (fun q => h' pins s σ H x v vl vu l u sl Q I rx hs pl pu q)
theorem sl_any {X : Cx} : SlR X (rSlA X.K) := SlR.or sl_list (SlR.or sl_tup sl_str)
theorem cut_rep {K : PySem.W.Frag} {F : Hp} {xs : List V} {ds : List D} (r : RepL K F xs ds) (lo hi : Option Int) : RepL K F (cutV xs lo hi) (cutD ds lo hi) := by
  unfold cutV cutD
  rw [r.length]
  exact (r.drop _).take _
def mSl {T : Type} (fa : M T D) (fl fh : M T (Option Int)) : M T D := mBind fa fun a => mBind fl fun l => mBind fh fun h => mLift (opSl a l h)
theorem sv_sl {ta : TE} {tl th : TO} {fa : M T D} {fl fh : M T (Option Int)} (ha : Sv C W ta fa) (hl : So C W tl fl) (hh : So C W th fh) : Sv C W (tSl (rSlA C.K) ta tl th) (mSl fa fl fh) := by
  intro F0 H0 L s σ F H Q g h
  refine ha _ _ _ _ _ _ _ _ g (po_imp (po_bind h) fun a s1 F1 H1 g1 e1 h1 v rv => ?_)
  refine hl _ _ _ _ _ _ _ _ g1 (po_imp (po_bind h1) fun lo s2 F2 H2 g2 e2 h2 => ?_)
  refine hh _ _ _ _ _ _ _ _ g2 (po_imp (po_bind h2) fun hi s3 F3 H3 g3 e3 h3 => ?_)
  obtain ⟨d, q, h4⟩ := po_lift h3
  have rv := (rv.mono e2).mono e3
  cases rv with
  | lst hx r =>
    cases q
    rename_i p xs ds
    refine .inl ⟨p, xs, rfl, SqL.of (g3.sub.lst hx), fun l hl => ?_⟩
    have e1 := Same.updN (o := HO.lst (cutV xs lo hi)) (g3.sub.nn hl)
    exact h4 _ _ (g3.allocF hl) e1 _ (.lst upd_same ((cut_rep r lo hi).mono e1))
  | tup hx r =>
    rename_i p xs ds
    dsimp only [opSl] at q
    by_cases hw : HT.sIx ds.length 0 lo = 0 ∧ HT.sIx ds.length ds.length hi = ds.length
    · rw [if_pos hw] at q; cases q
    · rw [if_neg hw] at q; cases q
      refine .inr (.inl ⟨p, xs, rfl, g3.sub.tup hx, by rw [r.length]; exact hw, fun l hl => ?_⟩)
      have e1 := Same.updN (o := HO.tup (cutV xs lo hi)) (g3.sub.nn hl)
      exact h4 _ _ (g3.allocF hl) e1 _ (.tup (.inl (.inl upd_same)) ((cut_rep r lo hi).mono e1))
  | str z =>
    dsimp only [opSl] at q
    by_cases hw : z.length ≤ lim
    · rw [if_pos hw] at q; cases q
      exact .inr (.inr ⟨z, rfl, lim_ok hw, h4 _ _ g3 (Same.refl _) _ (.str _)⟩)
    · rw [if_neg hw] at q; cases q
  | _ => cases q

/-! ### append -/
def mAppend {T : Type} (i : Nat) (fa : M T D) : M T D := fun s => match s.env[i]? with
  | some (.ol _) => mBind fa (fun d s1 => match s1.env[i]? with
    | some (.ol xs) => if xs.length < lim then .ok .none ⟨s1.env.set i (.ol (xs ++ [d])), s1.t⟩ else .stuck
    | _ => .stuck) s
  | _ => .stuck
theorem sv_append {i : Nat} {ta : TE} {fa : M T D} (ha : Sv C W ta fa) : Sv C W (tBM C.K "list" rAppend (tVar i) (tCons ta tNil)) (mAppend i fa) := by
  intro F0 H0 L s σ F H Q g h
  unfold mAppend at h
  cases q0 : s.env[i]? with
  | none => rw [q0] at h; exact h.elim
  | some x =>
    rw [q0] at h
    cases x with
    | ol xs =>
      simp only at h
      obtain ⟨p, vs, h1, h2, h3, h4, h5⟩ := g.slots i _ q0
      refine ⟨.ref p, h1, .inl ⟨rfl, _, SqL.of h4⟩, ?_⟩
      refine ha _ _ _ _ _ _ _ _ g (po_imp (po_bind h) fun d s1 F1 H1 g1 e1 k1 v rv => ?_)
      cases q1 : s1.env[i]? with
      | none => rw [q1] at k1; exact k1.elim
      | some y =>
        rw [q1] at k1
        cases y with
        | ol ys =>
          simp only at k1
          by_cases hl : ys.length < lim
          · rw [if_pos hl] at k1
            obtain ⟨p', ws, z1, z2, z3, z4, z5⟩ := g1.slots i _ q1
            rw [h1] at z1; cases z1
            have hlen := z5.length
            refine ⟨p, ws, v, rfl, rfl, z4, ?_, ?_⟩
            · rw [hlen]; exact Nat.lt_of_lt_of_le hl (lim_ok (Nat.le_refl _))
            · have g2 := g1.mutate (o := HO.lst (ws ++ [v])) q1 rfl h1 (y := .ol (ys ++ [d])) ⟨p, _, rfl, z2, z3, upd_same, z5.snoc rv⟩ z2 z3 ⟨_, z4⟩
              exact k1 _ _ g2 (Same.refl _) _ .non
          · rw [if_neg hl] at k1; exact k1.elim
        | _ => exact k1.elim
    | _ => exact h.elim
end

/-! ### targets -/
section
variable {T : Type} {C : Ct T} {W : WX}
/-- the target's stores touch the slots in is alone -/
def Sg (C : Ct T) (g : TG) (is : List Nat) (p : D → M T Unit) : Prop := ∀ F0 H0 L s σ F H (v : V) (d : D) (Q : L2.St → Hp → Prop), Good C F0 H0 L s σ F H → Rep C.K F v d →
  (match p d s with
    | .ok _ s' => ∀ σ', Good C F0 H0 L s' σ' F H → (∀ vs : List Nat, (∀ i ∈ is, i ∈ vs) → wipe σ' vs = wipe σ vs) → Q σ' H
    | _ => False) → g v σ H Q
def Sgs (C : Ct T) (g : TGs) (is : List Nat) (p : List D → M T Unit) : Prop := ∀ F0 H0 L s σ F H (vs : List V) (ds : List D) (Q : L2.St → Hp → Prop), Good C F0 H0 L s σ F H → RepL C.K F vs ds →
  (match p ds s with
    | .ok _ s' => ∀ σ', Good C F0 H0 L s' σ' F H → (∀ vs : List Nat, (∀ i ∈ is, i ∈ vs) → wipe σ' vs = wipe σ vs) → Q σ' H
    | _ => False) → g vs σ H Q
def pName {T : Type} (i : Nat) (d : D) : M T Unit := fun s => .ok () ⟨s.env.set i (.fz d), s.t⟩
theorem wipe_none {σ : L2.St} {i : Nat} : ∀ {vs : List Nat}, i ∈ vs → (wipe σ vs)[i]? = (if i < σ.length then some none else none)
  | [], h => by cases h
  | v :: vs, h => by
    unfold wipe
    by_cases e : v = i
    · subst e
      by_cases hl : v < σ.length
      · rw [List.getElem?_set_self (by rw [wipe_length]; exact hl), if_pos hl]
      · rw [List.getElem?_eq_none (by rw [List.length_set, wipe_length]; omega), if_neg hl]
    · rw [List.getElem?_set_ne e]
      exact wipe_none ((List.mem_cons.mp h).resolve_left (fun z => e z.symm))
theorem wipe_other {σ : L2.St} {i : Nat} : ∀ {vs : List Nat}, i ∉ vs → (wipe σ vs)[i]? = σ[i]?
  | [], _ => rfl
  | v :: vs, h => by
    unfold wipe
    rw [List.getElem?_set_ne (fun e => h (by rw [e]; exact List.mem_cons_self))]
    exact wipe_other fun z => h (List.mem_cons_of_mem _ z)
theorem wipe_set {σ : L2.St} {i : Nat} {x : Option V} {vs : List Nat} (h : i ∈ vs) : wipe (σ.set i x) vs = wipe σ vs := by
  apply List.ext_getElem?
  intro j
  by_cases hj : j ∈ vs
  · rw [wipe_none hj, wipe_none hj, List.length_set]
  · rw [wipe_other hj, wipe_other hj, List.getElem?_set_ne (fun e => hj (by rw [← e]; exact h))]
theorem sg_name (i : Nat) : Sg C (gName i) [i] (pName i) := by
  intro F0 H0 L s σ F H v d Q g r h
  exact h _ (g.setFz i r) fun vs hv => wipe_set (hv i (by simp))
def pNil {T : Type} : List D → M T Unit
  | [] => mRet ()
  | _ :: _ => fun _ => .stuck
def pCons {T : Type} (p : D → M T Unit) (ps : List D → M T Unit) : List D → M T Unit
  | [] => fun _ => .stuck
  | d :: ds => mBind (p d) fun _ => ps ds
theorem sgs_nil : Sgs C gNil [] pNil := by
  intro F0 H0 L s σ F H vs ds Q g r h
  cases r with
  | nil => exact ⟨rfl, h σ g fun _ _ => rfl⟩
  | cons _ _ => exact h.elim
theorem sgs_cons {t : TG} {u : TGs} {is js : List Nat} {p : D → M T Unit} {ps : List D → M T Unit} (h1 : Sg C t is p) (h2 : Sgs C u js ps) : Sgs C (gCons t u) (is ++ js) (pCons p ps) := by
  intro F0 H0 L s σ F H vs ds Q g r h
  cases r with
  | nil => exact h.elim
  | cons r1 r2 =>
    refine ⟨_, _, rfl, h1 _ _ _ _ _ _ _ _ _ _ g r1 ?_⟩
    simp only [pCons, mBind] at h
    rename_i v vs d ds
    cases q : p d s with
    | ok _ s1 =>
      rw [q] at h
      intro σ1 g1 w1
      refine h2 _ _ _ _ _ _ _ _ _ _ g1 r2 ?_
      simp only at h
      cases q2 : ps ds s1 with
      | ok _ s2 =>
        rw [q2] at h
        intro σ2 g2 w2
        exact h σ2 g2 fun vs hv => (w2 vs fun i hi => hv i (List.mem_append_right _ hi)).trans (w1 vs fun i hi => hv i (List.mem_append_left _ hi))
      | exc c s2 => rw [q2] at h; exact h.elim
      | stuck => rw [q2] at h; exact h.elim
    | exc c s1 => rw [q] at h; exact h.elim
    | stuck => rw [q] at h; exact h.elim
def pTup {T : Type} (n : Nat) (ps : List D → M T Unit) : D → M T Unit
  | .tuple ds => if ds.length = n then ps ds else fun _ => .stuck
  | .list ds => if ds.length = n then ps ds else fun _ => .stuck
  | _ => fun _ => .stuck
def gTL (K : PySem.W.Frag) (n : Nat) (u : TGs) : TG := fun v σ H Q => gTup K n u v σ H Q ∨ gLst K n u v σ H Q
theorem pg_tl {X : Cx} {es : List Expr} {k : Nat} {pos : Pos} {t : TGs} {n : Nat} (hc : X.calm = true) (h : PGs X es t) (hn : (assignEach es X.env).length = n := by rfl) (hst : (assignEach es X.env).findIdx? (·.1) = none := by rfl) : PG X (.Tuple es k pos) (gTL X.K n t) :=
  ⟨fun pins s σ H v u Q I r hw => hw.elim (fun q => (pg_tup hc h hn hst).run pins s σ H v u Q I r q) (fun q => (pg_lst hc h hn hst).run pins s σ H v u Q I r q)⟩
theorem sg_tup {n : Nat} {u : TGs} {is : List Nat} {ps : List D → M T Unit} (h : Sgs C u is ps) : Sg C (gTL C.K n u) is (pTup n ps) := by
  intro F0 H0 L s σ F H v d Q g r k
  cases r with
  | tup hx r =>
    dsimp only [pTup] at k
    rename_i p xs ds
    by_cases hn : ds.length = n
    · rw [if_pos hn] at k
      exact .inl ⟨p, xs, rfl, g.sub.tup hx, by rw [r.length]; exact hn, h _ _ _ _ _ _ _ _ _ _ g r k⟩
    · rw [if_neg hn] at k; exact k.elim
  | lst hx r =>
    dsimp only [pTup] at k
    rename_i p xs ds
    by_cases hn : ds.length = n
    · rw [if_pos hn] at k
      exact .inr ⟨p, xs, rfl, SqL.of (g.sub.lst hx), by rw [r.length]; exact hn, h _ _ _ _ _ _ _ _ _ _ g r k⟩
    · rw [if_neg hn] at k; exact k.elim
  | _ => exact k.elim
end
end Pm

set_option Elab.async false
set_option linter.all false
set_option maxRecDepth 100000
/-! What is walked; loops; statements; comprehensions. -/
namespace Pm
open PySem L2 RZ

def YOk (K : PySem.W.Frag) (F H : Hp) (x : V) (H3 : Hp) (d : D) : Prop :=
  (H3 = H ∧ Rep K F x d) ∨ ∃ tp a b da db, x = .ref tp ∧ H tp = none ∧ H3 = upd H tp (.tup [a, b]) ∧ Rep K F a da ∧ Rep K F b db ∧ d = .tuple [da, db]
structure ItOk (K : PySem.W.Frag) (F H : Hp) (J : It) (items : List D) : Prop where
  ok : ∃ (G : Hp → Prop) (Y : Nat → Hp → V → Hp → Prop), Walk J items.length G Y ∧ (∀ F' H', Same F F' → Sub F' H' → G H') ∧
    ∀ (i : Nat) (x : V) (F' H' H3 : Hp) (d : D), Same F F' → Sub F' H' → items[i]? = some d → Y i H' x H3 → YOk K F' H' x H3 d
section
variable {T : Type} {C : Ct T} {W : WX} {F0 H0 F F1 H : Hp} {L : Nat → Option Addr} {s : S T} {σ : L2.St} {α β : Type}
def Si (C : Ct T) (W : WX) (wi : TI) (f : M T (List D)) : Prop := ∀ F0 H0 L s σ F H (R : It → Hp → Prop), Good C F0 H0 L s σ F H → Po C W F0 H0 L F σ (fun items _ F' H' => ∀ J, ItOk C.K F' H' J items → R J H') (f s) → wi σ H R
def asSeq : D → Option (List D)
  | .list xs => some xs
  | .tuple xs => some xs
  | .str z => some (z.cps.toList.map fun c => .str ⟨#[c]⟩)
  | _ => none
def mIter {T : Type} (f : M T D) : M T (List D) := mBind f fun d => mLift (asSeq d)
theorem it_list {K : PySem.W.Frag} {a : Addr} {xs : List V} {ds : List D} (hx : F a = some (.lst xs)) (r : RepL K F xs ds) : ItOk K F H (Itl K a) ds :=
  ⟨_, _, r.length ▸ walk_list (K := K) (a := a) (xs := xs), fun F' H' e u => SqL.of (u.lst (e _ _ hx)), fun i x F' H' H3 d e u hd y => by
    obtain ⟨e1, e2⟩ := y
    obtain ⟨v, h1, h2⟩ := r.get hd
    rw [e2] at h1; cases h1
    exact .inl ⟨e1, h2.mono e⟩⟩
theorem it_tup {K : PySem.W.Frag} {a : Addr} {xs : List V} {ds : List D} (hx : SqT K F a xs) (r : RepL K F xs ds) : ItOk K F H (Itt K a) ds :=
  ⟨_, _, r.length ▸ walk_tup (K := K) (a := a) (xs := xs), fun F' H' e u => u.tup (sqT_mono e hx), fun i x F' H' H3 d e u hd y => by
    obtain ⟨e1, e2⟩ := y
    obtain ⟨v, h1, h2⟩ := r.get hd
    rw [e2] at h1; cases h1
    exact .inl ⟨e1, h2.mono e⟩⟩
theorem it_str {K : PySem.W.Frag} {z : Str} : ItOk K F H (Its z) (z.cps.toList.map fun c => .str ⟨#[c]⟩) :=
  ⟨_, _, (show (z.cps.toList.map fun c => PyData.str ⟨#[c]⟩).length = z.cps.size by simp) ▸ walk_str (z := z), fun _ _ _ _ => trivial, fun i x F' H' H3 d e u hd y => by
    obtain ⟨e1, c, e2, rfl⟩ := y
    rw [List.getElem?_map, Array.getElem?_toList, e2] at hd
    cases hd
    exact .inl ⟨e1, .str _⟩⟩
theorem PI.or {X : Cx} {tg e : Expr} {wi wi' : TI} (h : PI X tg e wi) (h' : PI X tg e wi') : PI X tg e (fun σ H R => wi σ H R ∨ wi' σ H R) := ⟨fun pins s σ H R I q => q.elim (h.run pins s σ H R I) (h'.run pins s σ H R I)⟩
abbrev iSeq (K : PySem.W.Frag) (te : TE) : TI := fun σ H R => te σ H fun x H1 => (∃ a, x = .ref a ∧ (∃ xs, SqL K H1 a xs) ∧ R (Itl K a) H1) ∨ (∃ a, x = .ref a ∧ (∃ xs, SqT K H1 a xs) ∧ R (Itt K a) H1) ∨ ∃ z, x = .str z ∧ R (Its z) H1
/-- a list, a tuple, a text: whatever the expression gives -/
theorem pi_seq {X : Cx} {tg e : Expr} {te : TE} (h : PE X e te) : PI X tg e (iSeq X.K te) := by
  refine ⟨fun pins s σ H R I q => ?_⟩
  refine thn (h.run pins s σ H _ I q) fun v s1 ⟨x, H1, I1, r1, q1⟩ => ?_
  rcases q1 with ⟨a, e1, ⟨xs, hq⟩, q⟩ | ⟨a, e1, ⟨xs, hq⟩, q⟩ | ⟨z, e1, q⟩
  · subst e1
    cases r1
    obtain ⟨its, rv, p, hz⟩ := I1.list hq
    refine wpAny_pyIter_list p.isList ?_
    refine ⟨s1.heap.objs.size, [s1.heap.objs.size], _, _, H1, rfl, I1.kept (t' := s1.toks) fun b o e => Heap.get?_push_of_some _ e, turn_list a _, ⟨_, Heap.get?_push_size _ rfl, rfl, rfl⟩, fun b hb => ?_, q⟩
    have e : b = s1.heap.objs.size := by simpa using hb
    subst e
    exact I1.fpOk (Nat.le_refl _) (I1.hok.fresh (Nat.le_refl _))
  · subst e1
    cases r1
    obtain ⟨its, rv, p, hz⟩ := I1.tuple hq
    refine wpAny_pyIter_tuple (show s1.heap.IsTuple a its.toArray from p) ?_
    refine ⟨s1.heap.objs.size, [s1.heap.objs.size], _, _, H1, rfl, I1.kept (t' := s1.toks) fun b o e => Heap.get?_push_of_some _ e, turn_tuple a _, ⟨_, Heap.get?_push_size _ rfl, rfl, rfl⟩, fun b hb => ?_, q⟩
    have e : b = s1.heap.objs.size := by simpa using hb
    subst e
    exact I1.fpOk (Nat.le_refl _) (I1.hok.fresh (Nat.le_refl _))
  · subst e1
    obtain ⟨t, rfl⟩ := r1
    cases ha : z.cps.all (· < 128)
    · exact PySem.wpAny_pyIter_wide ha (pi_one (tk := s1.toks) I1 _ (turn_str _ z t "str_iterator" (.inr rfl)) ⟨_, Heap.get?_push_size _ rfl, rfl, rfl⟩ q)
    · exact PySem.wpAny_pyIter_ascii ha (pi_one (tk := s1.toks) I1 _ (turn_str _ z t "str_ascii_iterator" (.inl rfl)) ⟨_, Heap.get?_push_size _ rfl, rfl, rfl⟩ q)
theorem si_seq {ta : TE} {fa : M T D} (ha : Sv C W ta fa) : Si C W (iSeq C.K ta) (mIter fa) := by
  intro F0 H0 L s σ F H R g h
  refine ha _ _ _ _ _ _ _ _ g (po_imp (po_bind h) fun d s1 F1 H1 g1 e1 h1 v rv => ?_)
  obtain ⟨items, q, h2⟩ := po_lift h1
  have h3 := po_ret h2 g1
  cases rv with
  | lst hx r => cases q; exact .inl ⟨_, rfl, ⟨_, SqL.of (g1.sub.lst hx)⟩, h3 _ (it_list hx r)⟩
  | tup hx r => cases q; exact .inr (.inl ⟨_, rfl, ⟨_, g1.sub.tup hx⟩, h3 _ (it_tup hx r)⟩)
  | str z => cases q; exact .inr (.inr ⟨_, rfl, h3 _ it_str⟩)
  | _ => cases q
/-- range -/
def rangeL (lo hi : Int) : List D := (List.range (hi - lo).toNat).map fun i => .int (lo + (i : Nat))
theorem it_range {K : PySem.W.Frag} {lo : Int} {n : Nat} : ItOk K F H (Itr lo n) ((List.range n).map fun i => .int (lo + (i : Nat))) :=
  ⟨_, _, by rw [show ((List.range n).map fun i => PyData.int (lo + (i : Nat))).length = n by simp]; exact walk_range (lo := lo) (n := n), fun _ _ _ _ => trivial, fun i x F' H' H3 d e u hd y => by
    obtain ⟨e1, rfl⟩ := y
    rw [List.getElem?_map, List.getElem?_range] at hd
    · cases hd; exact .inl ⟨e1, .int _⟩
    · by_cases hi : i < n
      · exact hi
      · rw [List.getElem?_eq_none (by simpa using hi)] at hd; cases hd⟩
def mRange1 {T : Type} (f : M T D) : M T (List D) := mBind f fun d => mLift (match d with
  | .int j => if -(2 ^ 62) ≤ j ∧ j < 2 ^ 62 then some (rangeL 0 j) else none
  | _ => none)
theorem si_range1 {ta : TE} {fa : M T D} (ha : Sv C W ta fa) : Si C W (iRng1 (tCons ta tNil)) (mRange1 fa) := by
  intro F0 H0 L s σ F H R g h
  refine ha _ _ _ _ _ _ _ _ g (po_imp (po_bind h) fun d s1 F1 H1 g1 e1 h1 v rv => ?_)
  obtain ⟨items, q, h2⟩ := po_lift h1
  have h3 := po_ret h2 g1
  cases rv with
  | int j =>
    dsimp only at q
    by_cases hj : -(2 ^ 62) ≤ j ∧ j < 2 ^ 62
    · rw [if_pos hj] at q; cases q
      refine ⟨j, rfl, hj.1, hj.2, h3 _ ?_⟩
      have k := it_range (K := C.K) (F := F1) (H := H1) (lo := 0) (n := j.toNat)
      unfold rangeL
      simpa using k
    · rw [if_neg hj] at q; cases q
  | _ => cases q
def mRange2 {T : Type} (fa fb : M T D) : M T (List D) := mBind fa fun a => mBind fb fun b => mLift (match a, b with
  | .int i, .int j => if -(2 ^ 62) ≤ i ∧ i < 2 ^ 62 ∧ -(2 ^ 62) ≤ j ∧ j < 2 ^ 62 then some (rangeL i j) else none
  | _, _ => none)
theorem si_range2 {ta tb : TE} {fa fb : M T D} (ha : Sv C W ta fa) (hb : Sv C W tb fb) : Si C W (iRng2 (tCons ta (tCons tb tNil))) (mRange2 fa fb) := by
  intro F0 H0 L s σ F H R g h
  refine ha _ _ _ _ _ _ _ _ g (po_imp (po_bind h) fun a s1 F1 H1 g1 e1 h1 v rv => ?_)
  refine hb _ _ _ _ _ _ _ _ g1 (po_imp (po_bind h1) fun b s2 F2 H2 g2 e2 h2 w rw' => ?_)
  obtain ⟨items, q, h2⟩ := po_lift h2
  have h3 := po_ret h2 g2
  cases rv with
  | int i =>
    cases rw' with
    | int j =>
      dsimp only at q
      by_cases hj : -(2 ^ 62) ≤ i ∧ i < 2 ^ 62 ∧ -(2 ^ 62) ≤ j ∧ j < 2 ^ 62
      · rw [if_pos hj] at q; cases q
        exact ⟨i, j, rfl, hj, h3 _ it_range⟩
      · rw [if_neg hj] at q; cases q
    | _ => cases q
  | _ => cases q
/-- zip of two -/
def zipD : List D → List D → List D
  | a :: as, b :: bs => .tuple [a, b] :: zipD as bs
  | _, _ => []
theorem zipD_length : ∀ (as bs : List D), (zipD as bs).length = min as.length bs.length
  | [], _ => by simp [zipD]
  | _ :: _, [] => by simp [zipD]
  | a :: as, b :: bs => by
    unfold zipD
    rw [List.length_cons, zipD_length as bs, List.length_cons, List.length_cons]
    omega
theorem zipD_get : ∀ {as bs : List D} {i : Nat} {d : D}, (zipD as bs)[i]? = some d → ∃ a b, as[i]? = some a ∧ bs[i]? = some b ∧ d = .tuple [a, b]
  | [], _, _, _, h => by simp [zipD] at h
  | _ :: _, [], _, _, h => by simp [zipD] at h
  | a :: as, b :: bs, 0, d, h => by simp [zipD] at h; exact ⟨a, b, rfl, rfl, h.symm⟩
  | a :: as, b :: bs, i + 1, d, h => by
    obtain ⟨x, y, h1, h2, h3⟩ := zipD_get (as := as) (bs := bs) (i := i) (by simpa [zipD] using h)
    exact ⟨x, y, by simpa using h1, by simpa using h2, h3⟩
def mZip {T : Type} (fa fb : M T D) : M T (List D) := mBind fa fun a => mBind fb fun b => mLift (match a, b with
  | .list xs, .list ys => some (zipD xs ys)
  | .tuple xs, .tuple ys => some (zipD xs ys)
  | _, _ => none)
theorem walk_zipT {K : PySem.W.Frag} {a b : Addr} {xs ys : List V} {n : Nat} (hn : n = min xs.length ys.length) : Walk (ItzT K a b) n (fun H => SqT K H a xs ∧ SqT K H b ys) (YPair (fun i => xs[i]?) (fun i => ys[i]?)) := by
  subst hn
  refine ⟨fun i _ hi q => ?_, fun _ q => ⟨xs, ys, q.1, q.2, by omega⟩, fun i H v H' _ q y => ?_⟩
  · have h1 : i < xs.length := by omega
    have h2 : i < ys.length := by omega
    exact ⟨xs, ys, xs[i], ys[i], q.1, q.2, by simp [h1], by simp [h2]⟩
  · obtain ⟨T, x, z, h1, h2, h3, h4, h5⟩ := y
    exact ⟨T, x, z, h1, h2, h3, h4 xs q.1, h5 ys q.2⟩
theorem y_zip {K : PySem.W.Frag} {xs ys : List V} {as bs : List D} (rx : RepL K F xs as) (ry : RepL K F ys bs) {i : Nat} {x : V} {F' H' H3 : Hp} {d : D} (e : Same F F') (hd : (zipD as bs)[i]? = some d) (y : YPair (fun i => xs[i]?) (fun i => ys[i]?) i H' x H3) : YOk K F' H' x H3 d := by
  obtain ⟨tp, p, q, h1, h2, h3, h4, h5⟩ := y
  obtain ⟨a, b, ha, hb, rfl⟩ := zipD_get hd
  obtain ⟨v, k1, k2⟩ := rx.get ha
  obtain ⟨w, l1, l2⟩ := ry.get hb
  dsimp only at h4 h5
  rw [h4] at k1; cases k1
  rw [h5] at l1; cases l1
  exact .inr ⟨tp, p, q, a, b, h1, h2, h3, k2.mono e, l2.mono e, rfl⟩
theorem si_zip {ta tb : TE} {fa fb : M T D} (ha : Sv C W ta fa) (hb : Sv C W tb fb) : Si C W (iZipA C.K (tCons ta (tCons tb tNil))) (mZip fa fb) := by
  intro F0 H0 L s σ F H R g h
  refine ha _ _ _ _ _ _ _ _ g (po_imp (po_bind h) fun a s1 F1 H1 g1 e1 h1 v rv => ?_)
  refine hb _ _ _ _ _ _ _ _ g1 (po_imp (po_bind h1) fun b s2 F2 H2 g2 e2 h2 w rw' => ?_)
  obtain ⟨items, q, h2⟩ := po_lift h2
  have h3 := po_ret h2 g2
  have rv := rv.mono e2
  cases rv with
  | lst hx rx =>
    cases rw' with
    | lst hy ry =>
      cases q
      refine ⟨_, _, _, _, rfl, .inl ⟨SqL.of (g2.sub.lst hx), SqL.of (g2.sub.lst hy), h3 _ ⟨_, _, walk_zip (by rw [zipD_length, rx.length, ry.length]), fun F' H' e u => ⟨SqL.of (u.lst (e _ _ hx)), SqL.of (u.lst (e _ _ hy))⟩, fun i x F' H' H3 d e u hd y => y_zip rx ry e hd y⟩⟩⟩
    | _ => cases q
  | tup hx rx =>
    cases rw' with
    | tup hy ry =>
      cases q
      refine ⟨_, _, _, _, rfl, .inr ⟨g2.sub.tup hx, g2.sub.tup hy, h3 _ ⟨_, _, walk_zipT (by rw [zipD_length, rx.length, ry.length]), fun F' H' e u => ⟨u.tup (sqT_mono e hx), u.tup (sqT_mono e hy)⟩, fun i x F' H' H3 d e u hd y => y_zip rx ry e hd y⟩⟩⟩
    | _ => cases q
  | _ => cases q
end
end Pm

set_option Elab.async false
set_option linter.all false
set_option maxRecDepth 100000
/-! Statements, loops. -/
namespace Pm
open PySem L2 RZ

inductive Out where
  | nx | bk | ct | ret (d : D)
def mBlk {T α : Type} (m : M T α) : M T α := fun s => match m s with
  | .ok a s' => .ok a s'
  | _ => .stuck
def mSeq {T : Type} (f g : M T Out) : M T Out := mBind f fun o => match o with
  | .nx => g
  | o => mRet o
def mReturn {T : Type} (f : M T D) : M T Out := mBind f fun d => mRet (.ret d)
def mExpr {T : Type} (f : M T D) : M T Out := mBind f fun _ => mRet .nx
def mSet {T : Type} (i : Nat) (f : M T Slot) : M T Out := mBind f fun x s => .ok .nx ⟨s.env.set i x, s.t⟩
def mSetG {T : Type} (p : D → M T Unit) (f : M T D) : M T Out := mBind f fun d => mBind (mBlk (p d)) fun _ => mRet .nx
def mSets {T : Type} (f : M T (List Slot)) (is : List Nat) : M T Out := mBind f fun xs s => if xs.length = is.length ∧ xs.length ≤ 1000 then .ok .nx ⟨(is.zip xs).foldl (fun e p => e.set p.1 p.2) s.env, s.t⟩ else .stuck
def mForL {T : Type} (f : D → M T Out) : List D → M T Out
  | [] => mRet .nx
  | d :: ds => mBind (f d) fun o => match o with
    | .nx => mForL f ds
    | .ct => mForL f ds
    | .bk => mRet .nx
    | .ret v => mRet (.ret v)
def mFor {T : Type} (fi : M T (List D)) (p : D → M T Unit) (fb : M T Out) : M T Out := mBind fi fun items => mForL (fun d => mBind (mBlk (p d)) fun _ => fb) items
def mWhileN {T : Type} (c : M T Bool) (b : M T Out) : Nat → M T Out
  | 0 => fun _ => .stuck
  | n + 1 => mBind c fun k => match k with
    | false => mRet .nx
    | true => mBind b fun o => match o with
      | .nx => mWhileN c b n
      | .ct => mWhileN c b n
      | .bk => mRet .nx
      | .ret v => mRet (.ret v)
def mWhile {T : Type} (μ : S T → Nat) (c : M T Bool) (b : M T Out) : M T Out := fun s => mWhileN c b (μ s) s
def asI0 : D → Option Int
  | .int i => some i
  | _ => none
def mAug {T : Type} (i : Nat) (op : D → D → Option D) (f : M T D) : M T Out := mBind (mOp op (mVar i) f) fun d s => .ok .nx ⟨s.env.set i (.fz d), s.t⟩

section
variable {T : Type} {C : Ct T} {W : WX} {F0 H0 F F1 H : Hp} {L : Nat → Option Addr} {s : S T} {σ : L2.St} {α β : Type}
def PoS (C : Ct T) (W : WX) (F0 H0 : Hp) (L : Nat → Option Addr) (F : Hp) (E : Ends) : Res T Out → Prop
  | .ok .nx s' => ∀ σ' F' H', Good C F0 H0 L s' σ' F' H' → Same F F' → E.nx σ' H'
  | .ok .bk s' => ∀ σ' F' H', Good C F0 H0 L s' σ' F' H' → Same F F' → E.bk σ' H'
  | .ok .ct s' => ∀ σ' F' H', Good C F0 H0 L s' σ' F' H' → Same F F' → E.ct σ' H'
  | .ok (.ret d) s' => ∀ v σ' F' H', Good C F0 H0 L s' σ' F' H' → Same F F' → Rep C.K F' v d → E.rt v H'
  | .exc c s' => ∀ σ' F' H', Good C F0 H0 L s' σ' F' H' → Same F F' → W (.ref (C.cls c)) none σ' H'
  | .stuck => False
def Sb (C : Ct T) (W : WX) (t : TS) (f : M T Out) : Prop := ∀ F0 H0 L s σ F H (E : Ends), Good C F0 H0 L s σ F H → PoS C W F0 H0 L F E (f s) → t E σ H
theorem pos_from {E : Ends} {r : Res T Out} (h : PoS C W F0 H0 L F E r) (e : Same F F1) : PoS C W F0 H0 L F1 E r := by
  cases r with
  | ok a s' => cases a with
    | nx => exact fun σ' F' H' g e' => h σ' F' H' g (e.trans e')
    | bk => exact fun σ' F' H' g e' => h σ' F' H' g (e.trans e')
    | ct => exact fun σ' F' H' g e' => h σ' F' H' g (e.trans e')
    | ret d => exact fun v σ' F' H' g e' => h v σ' F' H' g (e.trans e')
  | exc c s' => exact fun σ' F' H' g e' => h σ' F' H' g (e.trans e')
  | stuck => exact h
theorem pos_bind {m : M T α} {f : α → M T Out} {E : Ends} (h : PoS C W F0 H0 L F E (mBind m f s)) : Po C W F0 H0 L F σ (fun a s1 F1 _ => PoS C W F0 H0 L F1 E (f a s1)) (m s) := by
  unfold mBind at h
  cases q : m s with
  | ok a s' =>
    rw [q] at h
    exact fun F' H' g e' => pos_from h e'
  | exc c s' =>
    rw [q] at h
    exact fun F' H' g e' => h σ F' H' g e'
  | stuck =>
    rw [q] at h
    exact h
/-- a statement ahead of the rest -/
theorem pos_seq {m : M T Out} {f : Out → M T Out} {E E' : Ends} (h : PoS C W F0 H0 L F E (mBind m f s))
    (h1 : ∀ s' σ' F' H', PoS C W F0 H0 L F' E (f .nx s') → Good C F0 H0 L s' σ' F' H' → Same F F' → E'.nx σ' H')
    (h2 : ∀ s' σ' F' H', PoS C W F0 H0 L F' E (f .bk s') → Good C F0 H0 L s' σ' F' H' → Same F F' → E'.bk σ' H')
    (h3 : ∀ s' σ' F' H', PoS C W F0 H0 L F' E (f .ct s') → Good C F0 H0 L s' σ' F' H' → Same F F' → E'.ct σ' H')
    (h4 : ∀ d s' v σ' F' H', PoS C W F0 H0 L F' E (f (.ret d) s') → Good C F0 H0 L s' σ' F' H' → Same F F' → Rep C.K F' v d → E'.rt v H') : PoS C W F0 H0 L F E' (m s) := by
  unfold mBind at h
  cases q : m s with
  | ok a s' =>
    rw [q] at h
    cases a with
    | nx => exact fun σ' F' H' g e' => h1 s' σ' F' H' (pos_from h e') g e'
    | bk => exact fun σ' F' H' g e' => h2 s' σ' F' H' (pos_from h e') g e'
    | ct => exact fun σ' F' H' g e' => h3 s' σ' F' H' (pos_from h e') g e'
    | ret d => exact fun v σ' F' H' g e' r => h4 d s' v σ' F' H' (pos_from h e') g e' r
  | exc c s' =>
    rw [q] at h
    exact h
  | stuck =>
    rw [q] at h
    exact h
variable {t u : TS} {f f' : M T Out} {te : TE} {fe : M T D} {tc : TT} {fc : M T Bool}
theorem sb_next : Sb C W tNext (mRet .nx) := fun F0 H0 L s σ F H E g h => h σ F H g (Same.refl F)
theorem sb_break : Sb C W tBreak (mRet .bk) := fun F0 H0 L s σ F H E g h => h σ F H g (Same.refl F)
theorem sb_cont : Sb C W tCont (mRet .ct) := fun F0 H0 L s σ F H E g h => h σ F H g (Same.refl F)
theorem sb_seq (h1 : Sb C W t f) (h2 : Sb C W u f') : Sb C W (tSeq t u) (mSeq f f') := by
  intro F0 H0 L s σ F H E g h
  refine h1 _ _ _ _ _ _ _ _ g (pos_seq h (fun s' σ' F' H' k g' e' => h2 _ _ _ _ _ _ _ _ g' k) (fun s' σ' F' H' k g' e' => ?_) (fun s' σ' F' H' k g' e' => ?_) (fun d s' v σ' F' H' k g' e' r => ?_))
  · exact k σ' F' H' g' (Same.refl _)
  · exact k σ' F' H' g' (Same.refl _)
  · exact k v σ' F' H' g' (Same.refl _) r
theorem sb_ret (h : Sv C W te fe) : Sb C W (tRet te) (mReturn fe) := by
  intro F0 H0 L s σ F H E g k
  exact h _ _ _ _ _ _ _ _ g (po_imp (pos_bind k) fun d s1 F1 H1 g1 e1 k1 v rv => k1 v σ F1 H1 g1 (Same.refl _) rv)
theorem sb_retN : Sb C W tRetN (mRet (.ret .none)) := fun F0 H0 L s σ F H E g h => h .non σ F H g (Same.refl F) .non
theorem sb_expr (h : Sv C W te fe) : Sb C W (tDrop te) (mExpr fe) := by
  intro F0 H0 L s σ F H E g k
  exact h _ _ _ _ _ _ _ _ g (po_imp (pos_bind k) fun d s1 F1 H1 g1 e1 k1 v rv => k1 σ F1 H1 g1 (Same.refl _))
theorem sb_if (h : Stt C W tc fc) (h1 : Sb C W t f) (h2 : Sb C W u f') : Sb C W (tIfS tc t u) (mIf fc f f') := by
  intro F0 H0 L s σ F H E g k
  refine h _ _ _ _ _ _ _ _ g (po_imp (pos_bind k) fun b s1 F1 H1 g1 e1 k1 => ?_)
  cases b with
  | true => exact iteT (h1 _ _ _ _ _ _ _ _ g1 k1)
  | false => exact iteF (h2 _ _ _ _ _ _ _ _ g1 k1)
theorem SlotV.ok {x : Slot} {v : V} {i : Nat} (h : SlotV C H0 s σ F H v x) : SlotOk C H0 L i F H x (some (some v)) ∧ ∀ p, x.owned = true → v = .ref p → Tmp C H0 s σ F H p := by
  cases x with
  | un => exact ⟨trivial, fun _ z => by cases z⟩
  | fz d => exact ⟨⟨v, rfl, h⟩, fun _ z => by cases z⟩
  | ol xs =>
    obtain ⟨p, vs, rfl, t, h1, h2⟩ := h
    exact ⟨⟨p, vs, rfl, t.f, t.h0, h1, h2⟩, fun q _ e => by cases e; exact t⟩
  | od xs =>
    obtain ⟨p, vs, rfl, t, h1, h2⟩ := h
    exact ⟨⟨p, vs, rfl, t.f, t.h0, h1, h2⟩, fun q _ e => by cases e; exact t⟩
  | pt n => exact ⟨congrArg (fun z => some (some z)) h, fun _ z => by cases z⟩
  | bw xs => exact h.elim
theorem Good.setV (g : Good C F0 H0 L s σ F H) (i : Nat) {x : Slot} {v : V} (h : SlotV C H0 s σ F H v x) : Good C F0 H0 L ⟨s.env.set i x, s.t⟩ (σ.set i (some v)) F H :=
  g.set i (h.ok (L := L) (i := i)).1 fun p o e j y hj hy oy => ((h.ok (L := L) (i := i)).2 p o e).no j y hy oy
theorem sb_set {f : M T Slot} (i : Nat) (h : Se C W te f) : Sb C W (tAsg te (gName i)) (mSet i f) := by
  intro F0 H0 L s σ F H E g k
  exact h _ _ _ _ _ _ _ _ g (po_imp (pos_bind k) fun x s1 F1 H1 g1 e1 k1 v rv => k1 _ F1 H1 (g1.setV i rv) (Same.refl _))
theorem sg_use {tg : TG} {is : List Nat} {p : D → M T Unit} {E : Ends} {m : M T Out} {d : D} {v : V} (hg : Sg C tg is p) (g : Good C F0 H0 L s σ F H) (r : Rep C.K F v d) (k : PoS C W F0 H0 L F E (mBind (mBlk (p d)) (fun _ => m) s)) {Q : L2.St → Hp → Prop}
    (q : ∀ s' σ', Good C F0 H0 L s' σ' F H → PoS C W F0 H0 L F E (m s') → Q σ' H) : tg v σ H Q := by
  refine hg _ _ _ _ _ _ _ _ _ _ g r ?_
  unfold mBind mBlk at k
  cases e : p d s with
  | ok a s' =>
    simp only [e] at k ⊢
    exact fun σ' g' _ => q s' σ' g' k
  | exc c s' => simp only [e] at k; exact k.elim
  | stuck => simp only [e] at k; exact k.elim
theorem sb_setG {tg : TG} {is : List Nat} {p : D → M T Unit} (h : Sv C W te fe) (hg : Sg C tg is p) : Sb C W (tAsg te tg) (mSetG p fe) := by
  intro F0 H0 L s σ F H E g k
  exact h _ _ _ _ _ _ _ _ g (po_imp (pos_bind k) fun d s1 F1 H1 g1 e1 k1 v rv => sg_use hg g1 rv k1 fun s' σ' g' k' => k' σ' F1 H1 g' (Same.refl _))
/-- x op= e -/
theorem sb_aug {i : Nat} {op : D → D → Option D} {r : R2} (h : Sv C W te fe) (hr : Rv C r op) : Sb C W (tAug i te r) (mAug i op fe) := by
  intro F0 H0 L s σ F H E g k
  obtain ⟨v, hv, q⟩ := sv_var (C := C) (W := W) i _ _ _ _ _ _ _ (fun v H1 => te σ H1 fun y H2 => r v y H2 fun z H3 => E.nx (σ.set i (some z)) H3) g (by
    refine po_imp (po_bind (pos_bind k)) fun a s1 F1 H1 g1 e1 h1 v rv => ?_
    refine h _ _ _ _ _ _ _ _ g1 (po_imp (po_bind h1) fun b s2 F2 H2 g2 e2 h2 w rw' => ?_)
    obtain ⟨d, q, h3⟩ := po_lift h2
    refine hr _ _ _ _ _ _ _ _ _ _ _ _ g2 (rv.mono e2) rw' ?_
    rw [q]
    intro z F3 H3 g3 e3 rz
    exact h3 F3 H3 g3 e3 _ F3 H3 (g3.setFz i rz) (Same.refl _))
  exact ⟨v, hv, q⟩
/-- for -/
theorem sb_for {wi : TI} {fi : M T (List D)} {tg : TG} {is : List Nat} {p : D → M T Unit} (hi : Si C W wi fi) (hg : Sg C tg is p) (hb : Sb C W t f) : Sb C W (tFor wi tg t) (mFor fi p f) := by
  intro F0 H0 L s σ F H E g k
  refine hi _ _ _ _ _ _ _ _ g (po_imp (pos_bind k) fun items s1 F1 H1 g1 e1 k1 J it => ?_)
  obtain ⟨G, Y, w, hG, hY⟩ := it.ok
  refine for_it w (fun i σ' H' => ∃ s' F', Good C F0 H0 L s' σ' F' H' ∧ Same F1 F' ∧ PoS C W F0 H0 L F' E (mForL (fun d => mBind (mBlk (p d)) fun _ => f) (items.drop i) s')) ⟨s1, F1, g1, Same.refl _, k1⟩ (fun i σ' H' _ ⟨s', F', g', e', _⟩ => hG F' H' e' g'.sub) ?_ ?_
  · rintro i x σ2 H2 H3 hi' ⟨s2, F2, g2, e2, k2⟩ y
    have hd : items[i]? = some items[i] := by simp [hi']
    have hdrop : items.drop i = items[i] :: items.drop (i + 1) := List.drop_eq_getElem_cons hi'
    rw [hdrop] at k2
    -- the item, its pair frozen
    obtain ⟨F3, g3, e3, r3⟩ : ∃ F3, Good C F0 H0 L s2 σ2 F3 H3 ∧ Same F2 F3 ∧ Rep C.K F3 x items[i] := by
      rcases hY i x F2 H2 H3 _ e2 g2.sub hd y with ⟨rfl, r⟩ | ⟨tp, a, b, da, db, rfl, hn, rfl, ra, rb, ed⟩
      · exact ⟨F2, g2, Same.refl _, r⟩
      · have e := Same.updN (o := HO.tup [a, b]) (g2.sub.nn hn)
        rw [ed]
        exact ⟨_, g2.allocF hn, e, .tup (.inl (.inl upd_same)) (.cons (ra.mono e) (.cons (rb.mono e) .nil))⟩
    have k3 : PoS C W F0 H0 L F3 E (mBind (mBlk (p items[i])) (fun _ s => mBind f (fun o => match o with
      | .nx => mForL (fun d => mBind (mBlk (p d)) fun _ => f) (items.drop (i + 1))
      | .ct => mForL (fun d => mBind (mBlk (p d)) fun _ => f) (items.drop (i + 1))
      | .bk => mRet .nx
      | .ret v => mRet (.ret v)) s) s2) := by
      have q := pos_from k2 e3
      have eq : ∀ (m : M T Unit) (h : Out → M T Out), mBind (mBind m fun _ => f) h s2 = mBind m (fun _ => mBind f h) s2 := fun m h => by
        unfold mBind
        cases m s2 <;> rfl
      have q' : PoS C W F0 H0 L F3 E (mBind (mBind (mBlk (p items[i])) fun _ => f) (fun o => match o with
        | .nx => mForL (fun d => mBind (mBlk (p d)) fun _ => f) (items.drop (i + 1))
        | .ct => mForL (fun d => mBind (mBlk (p d)) fun _ => f) (items.drop (i + 1))
        | .bk => mRet .nx
        | .ret v => mRet (.ret v)) s2) := q
      rw [eq] at q'
      exact q'
    refine sg_use hg g3 r3 k3 fun s4 σ4 g4 k4 => ?_
    refine hb _ _ _ _ _ _ _ _ g4 (pos_seq k4 (fun s' σ' F' H' k g' e' => ?_) (fun s' σ' F' H' k g' e' => ?_) (fun s' σ' F' H' k g' e' => ?_) (fun d s' v σ' F' H' k g' e' r => ?_))
    · exact ⟨s', F', g', (e2.trans e3).trans e', k⟩
    · exact k σ' F' H' g' (Same.refl _)
    · exact ⟨s', F', g', (e2.trans e3).trans e', k⟩
    · exact k v σ' F' H' g' (Same.refl _) r
  · rintro σ2 H2 ⟨s2, F2, g2, e2, k2⟩
    rw [List.drop_eq_nil_of_le (Nat.le_refl _)] at k2
    exact k2 σ2 F2 H2 g2 (Same.refl _)
/-- while -/
theorem sb_while (μ : S T → Nat) (hc : Stt C W tc fc) (hb : Sb C W t f) : Sb C W (tWhile tc t) (mWhile μ fc f) := by
  intro F0 H0 L s σ F H E g k
  refine ⟨fun m σ' H' => ∃ s' F', Good C F0 H0 L s' σ' F' H' ∧ PoS C W F0 H0 L F' E (mWhileN fc f m s'), ⟨_, s, F, g, k⟩, ?_⟩
  rintro m σ1 H1 ⟨s1, F1, g1, k1⟩
  cases m with
  | zero => exact k1.elim
  | succ m =>
    refine hc _ _ _ _ _ _ _ _ g1 (po_imp (pos_bind k1) fun b s2 F2 H2 g2 e2 k2 => ?_)
    cases b with
    | false => exact iteF (k2 σ1 F2 H2 g2 (Same.refl _))
    | true =>
      refine iteT ⟨fun σ' H' => ∃ s' F', Good C F0 H0 L s' σ' F' H' ∧ PoS C W F0 H0 L F' E (mWhileN fc f m s'), fun σ' H' q => ⟨m, Nat.lt_succ_self _, q⟩, ?_⟩
      refine hb _ _ _ _ _ _ _ _ g2 (pos_seq k2 (fun s' σ' F' H' k g' e' => ?_) (fun s' σ' F' H' k g' e' => ?_) (fun s' σ' F' H' k g' e' => ?_) (fun d s' v σ' F' H' k g' e' r => ?_))
      · exact ⟨s', F', g', k⟩
      · exact k σ' F' H' g' (Same.refl _)
      · exact ⟨s', F', g', k⟩
      · exact k v σ' F' H' g' (Same.refl _) r
end
end Pm

set_option Elab.async false
set_option linter.all false
set_option maxRecDepth 100000
/-! Argument lists of slots; several stores at once; list comprehensions; defs. -/
namespace Pm
open PySem L2 RZ

section
variable {T : Type} {C : Ct T} {W : WX} {F0 H0 F F1 H : Hp} {L : Nat → Option Addr} {s : S T} {σ : L2.St} {α β : Type}
def SlotVs (C : Ct T) (H0 : Hp) (s : S T) (σ : L2.St) (F H : Hp) : List V → List Slot → Prop
  | [], [] => True
  | v :: vs, x :: xs => SlotV C H0 s σ F H v x ∧ SlotVs C H0 s σ F H vs xs ∧ (x.owned = true → ∀ (j : Nat) (y : Slot), xs[j]? = some y → y.owned = true → vs[j]? ≠ some v)
  | _, _ => False
theorem SlotVs.length : ∀ {vs : List V} {xs : List Slot}, SlotVs C H0 s σ F H vs xs → vs.length = xs.length
  | [], [], _ => rfl
  | _ :: _, _ :: _, h => congrArg Nat.succ (SlotVs.length h.2.1)
  | [], _ :: _, h => h.elim
  | _ :: _, [], h => h.elim
theorem SlotVs.at : ∀ {vs : List V} {xs : List Slot} {j : Nat} {y : Slot}, SlotVs C H0 s σ F H vs xs → xs[j]? = some y → ∃ w, vs[j]? = some w ∧ SlotV C H0 s σ F H w y
  | [], [], _, _, _, h => by simp at h
  | v :: vs, x :: xs, 0, y, q, h => by
    simp at h; subst h
    exact ⟨v, rfl, q.1⟩
  | v :: vs, x :: xs, j + 1, y, q, h => by
    obtain ⟨w, h1, h2⟩ := SlotVs.at (j := j) q.2.1 (by simpa using h)
    exact ⟨w, by simpa using h1, h2⟩
  | [], _ :: _, _, _, h, _ => h.elim
  | _ :: _, [], _, _, h, _ => h.elim
def Sas (C : Ct T) (W : WX) (t : TA) (f : M T (List Slot)) : Prop := ∀ F0 H0 L s σ F H (Q : List V → Hp → Prop), Good C F0 H0 L s σ F H → Po C W F0 H0 L F σ (fun xs s' F' H' => ∀ vs, SlotVs C H0 s' σ F' H' vs xs → Q vs H') (f s) → t σ H Q
/-- a value as a slot's content is held while other things go on -/
theorem hold {x : Slot} {v : V} (g : Good C F0 H0 L s σ F H) (h : SlotV C H0 s σ F H v x) : ∃ H1, Good C F0 H1 L s σ F H ∧
    (∀ s' F' H', Good C F0 H1 L s' σ F' H' → Same F F' → Good C F0 H0 L s' σ F' H' ∧ SlotV C H0 s' σ F' H' v x) ∧
    ∀ s' F' H' w y, Good C F0 H1 L s' σ F' H' → SlotV C H1 s' σ F' H' w y → SlotV C H0 s' σ F' H' w y ∧ (x.owned = true → y.owned = true → w ≠ v) := by
  have plain : (x.owned = false) → (∀ s' F' H', Same F F' → SlotV C H0 s' σ F' H' v x) → ∃ H1, Good C F0 H1 L s σ F H ∧
    (∀ s' F' H', Good C F0 H1 L s' σ F' H' → Same F F' → Good C F0 H0 L s' σ F' H' ∧ SlotV C H0 s' σ F' H' v x) ∧
    ∀ s' F' H' w y, Good C F0 H1 L s' σ F' H' → SlotV C H1 s' σ F' H' w y → SlotV C H0 s' σ F' H' w y ∧ (x.owned = true → y.owned = true → w ≠ v) :=
    fun ho k => ⟨H0, g, fun s' F' H' g' e => ⟨g', k s' F' H' e⟩, fun s' F' H' w y g' h' => ⟨h', fun z => by rw [ho] at z; cases z⟩⟩
  have own : ∀ (p : Addr) (o : HO), v = .ref p → Tmp C H0 s σ F H p → H p = some o → (∀ s' F' H', Same F F' → Tmp C H0 s' σ F' H' p → H' p = some o → SlotV C H0 s' σ F' H' v x) → ∃ H1, Good C F0 H1 L s σ F H ∧
    (∀ s' F' H', Good C F0 H1 L s' σ F' H' → Same F F' → Good C F0 H0 L s' σ F' H' ∧ SlotV C H0 s' σ F' H' v x) ∧
    ∀ s' F' H' w y, Good C F0 H1 L s' σ F' H' → SlotV C H1 s' σ F' H' w y → SlotV C H0 s' σ F' H' w y ∧ (x.owned = true → y.owned = true → w ≠ v) := fun p o ev t hp k => by
    have f0 : F0 p = none := Same.free g.ext0 t.f
    have pf : p ∉ C.fp := fun z => g.fp0 p z t.h0
    have up : ∀ a, (upd H0 p o) a = none → H0 a = none ∧ a ≠ p := fun a e => by
      by_cases hn : a = p
      · subst hn; rw [upd_same] at e; cases e
      · rw [upd_ne hn] at e; exact ⟨e, hn⟩
    refine ⟨upd H0 p o, g.protect t hp, fun s' F' H' g' e => ?_, fun s' F' H' w y g' h' => ?_⟩
    · obtain ⟨g2, t2, h2⟩ := g'.unprotect t.h0 f0 pf g.lH
      exact ⟨g2, k s' F' H' e t2 h2⟩
    · cases y with
      | un => exact ⟨trivial, fun _ z => by cases z⟩
      | fz d => exact ⟨h', fun _ z => by cases z⟩
      | pt n => exact ⟨h', fun _ z => by cases z⟩
      | bw xs => exact h'.elim
      | ol xs =>
        obtain ⟨q, vs, e1, t1, h1, h2⟩ := h'
        refine ⟨⟨q, vs, e1, ⟨t1.f, (up q t1.h0).1, t1.no⟩, h1, h2⟩, fun _ _ e => ?_⟩
        rw [e1, ev] at e
        exact (up q t1.h0).2 (V.ref.inj e)
      | od xs =>
        obtain ⟨q, vs, e1, t1, h1, h2⟩ := h'
        refine ⟨⟨q, vs, e1, ⟨t1.f, (up q t1.h0).1, t1.no⟩, h1, h2⟩, fun _ _ e => ?_⟩
        rw [e1, ev] at e
        exact (up q t1.h0).2 (V.ref.inj e)
  cases x with
  | un => exact plain rfl fun _ _ _ _ => trivial
  | fz d => exact plain rfl fun _ _ _ e => Rep.mono e h
  | pt n => exact plain rfl fun _ _ _ _ => h
  | bw xs => exact h.elim
  | ol xs =>
    obtain ⟨p, vs, e1, t, h1, h2⟩ := h
    exact own p _ e1 t h1 fun s' F' H' e t' h' => ⟨p, vs, e1, t', h', h2.mono e⟩
  | od xs =>
    obtain ⟨p, vs, e1, t, h1, h2⟩ := h
    exact own p _ e1 t h1 fun s' F' H' e t' h' => ⟨p, vs, e1, t', h', h2.mono e⟩
theorem po_hold {G : α → S T → Hp → Hp → Prop} {H1 : Hp} {r : Res T α} (h : Po C W F0 H0 L F σ G r) (k : ∀ s' F' H', Good C F0 H1 L s' σ F' H' → Same F F' → Good C F0 H0 L s' σ F' H') : Po C W F0 H1 L F σ G r := by
  cases r with
  | ok a s' => exact fun F' H' g e => h F' H' (k s' F' H' g e) e
  | exc c s' => exact fun F' H' g e => h F' H' (k s' F' H' g e) e
  | stuck => exact h
def mSNil {T : Type} : M T (List Slot) := mRet []
def mSCons {T : Type} (f : M T Slot) (fr : M T (List Slot)) : M T (List Slot) := mBind f fun x => mBind fr fun xs => mRet (x :: xs)
theorem sas_nil : Sas C W tNil mSNil := fun F0 H0 L s σ F H Q g h => po_ret h g [] trivial
theorem sas_cons {te : TE} {tr : TA} {f : M T Slot} {fr : M T (List Slot)} (ha : Se C W te f) (hr : Sas C W tr fr) : Sas C W (tCons te tr) (mSCons f fr) := by
  intro F0 H0 L s σ F H Q g h
  refine ha _ _ _ _ _ _ _ _ g (po_imp (po_bind h) fun x s1 F1 H1 g1 e1 h1 v rv => ?_)
  obtain ⟨H2, g2, k1, k2⟩ := hold g1 rv
  refine hr _ _ _ _ _ _ _ _ g2 (po_imp (po_hold (po_bind h1) fun s' F' H' g' e' => (k1 s' F' H' g' e').1) fun xs s3 F3 H3 g3 e3 h3 vs rs => ?_)
  obtain ⟨g4, rv4⟩ := k1 s3 F3 H3 g3 e3
  refine po_ret h3 g4 _ ⟨rv4, ?_, fun ho j y hy oy e => ?_⟩
  · have conv : ∀ (vs : List V) (xs : List Slot), SlotVs C H2 s3 σ F3 H3 vs xs → SlotVs C H0 s3 σ F3 H3 vs xs := by
      intro vs
      induction vs with
      | nil => intro xs h; cases xs with
        | nil => trivial
        | cons _ _ => exact h.elim
      | cons w ws ih => intro xs h; cases xs with
        | nil => exact h.elim
        | cons y ys => exact ⟨(k2 s3 F3 H3 w y g3 h.1).1, ih ys h.2.1, h.2.2⟩
    exact conv vs xs rs
  · obtain ⟨w, hw, rw'⟩ := rs.at hy
    rw [e] at hw; cases hw
    exact (k2 s3 F3 H3 v y g3 rw').2 ho oy rfl
/-- several slots stored -/
theorem Good.setMany : ∀ (is : List Nat) (vs : List V) (xs : List Slot) {s : S T} {σ : L2.St}, Good C F0 H0 L s σ F H → SlotVs C H0 s σ F H vs xs →
    Good C F0 H0 L ⟨(is.zip xs).foldl (fun e p => e.set p.1 p.2) s.env, s.t⟩ ((is.zip vs).foldl (fun e p => e.set p.1 (some p.2)) σ) F H
  | [], _, _, _, _, g, _ => by simpa using g
  | _ :: _, [], [], _, _, g, _ => by simpa using g
  | _ :: _, [], _ :: _, _, _, _, h => h.elim
  | _ :: _, _ :: _, [], _, _, _, h => h.elim
  | i :: is, v :: vs, x :: xs, s, σ, g, h => by
    have g1 := g.setV i h.1
    have ne : x.owned = true → ∀ (j : Nat) (y : Slot), xs[j]? = some y → y.owned = true → vs[j]? ≠ some v := h.2.2
    have conv : ∀ (vs : List V) (xs : List Slot), (x.owned = true → ∀ (j : Nat) (y : Slot), xs[j]? = some y → y.owned = true → vs[j]? ≠ some v) → SlotVs C H0 s σ F H vs xs → SlotVs C H0 ⟨s.env.set i x, s.t⟩ (σ.set i (some v)) F H vs xs := by
      intro vs
      induction vs with
      | nil => intro xs _ h; cases xs with
        | nil => trivial
        | cons _ _ => exact h.elim
      | cons w ws ih => intro xs hne h; cases xs with
        | nil => exact h.elim
        | cons y ys =>
          have tm : ∀ p, y.owned = true → w = .ref p → Tmp C H0 s σ F H p → Tmp C H0 ⟨s.env.set i x, s.t⟩ (σ.set i (some v)) F H p := fun p oy ew t => ⟨t.f, t.h0, fun j z hz oz => by
            by_cases e : i = j
            · subst e
              by_cases hl : i < s.env.length
              · rw [List.getElem?_set_self hl] at hz
                cases hz
                rw [List.getElem?_set_self (by rw [← g.len]; exact hl)]
                intro q
                have q1 : v = .ref p := Option.some.inj (Option.some.inj q)
                exact hne oz 0 y rfl oy (by rw [q1, ← ew]; rfl)
              · rw [List.getElem?_eq_none (by simpa using hl)] at hz; cases hz
            · rw [List.getElem?_set_ne e] at hz ⊢
              exact t.no j z hz oz⟩
          refine ⟨?_, ih ys (fun ox j z hz oz => hne ox (j + 1) z hz oz) h.2.1, h.2.2⟩
          have k := h.1
          cases y with
          | un => trivial
          | fz d => exact k
          | pt n => exact k
          | bw xs => exact k.elim
          | ol xs =>
            obtain ⟨q, vs, e1, t1, h1, h2⟩ := k
            exact ⟨q, vs, e1, tm q rfl e1 t1, h1, h2⟩
          | od xs =>
            obtain ⟨q, vs, e1, t1, h1, h2⟩ := k
            exact ⟨q, vs, e1, tm q rfl e1 t1, h1, h2⟩
    exact Good.setMany is vs xs g1 (conv vs xs ne h.2.1)
theorem sb_par {i j : Nat} {ta : TA} {f : M T (List Slot)} (h : Sas C W ta f) : Sb C W (tPar i j ta) (mSets f [i, j]) := by
  intro F0 H0 L s σ F H E g k
  refine h _ _ _ _ _ _ _ _ g (po_imp (pos_bind k) fun xs s1 F1 H1 g1 e1 k1 vs rv => ?_)
  by_cases hl : xs.length = 2 ∧ xs.length ≤ 1000
  · simp only [List.length_cons, List.length_nil] at k1
    rw [if_pos hl] at k1
    have g2 := Good.setMany [i, j] vs xs g1 rv
    have hv := rv.length
    match vs, xs, hl, hv, g2, k1, rv with
    | [v, w], [x, y], _, _, g2, k1, _ => exact ⟨v, w, rfl, k1 _ F1 H1 g2 (Same.refl _)⟩
    | [], _, hl, hv, _, _, _ => simp at hv; omega
    | [_], _, hl, hv, _, _, _ => simp at hv; omega
    | _ :: _ :: _ :: _, _, hl, hv, _, _, _ => simp at hv; omega
    | [_, _], [], hl, hv, _, _, _ => simp at hv
    | [_, _], [_], hl, hv, _, _, _ => simp at hv
    | [_, _], _ :: _ :: _ :: _, hl, hv, _, _, _ => simp at hl
  · simp only [List.length_cons, List.length_nil] at k1
    rw [if_neg hl] at k1
    exact k1.elim
theorem sb_par3 {i j l : Nat} {ta : TA} {f : M T (List Slot)} (h : Sas C W ta f) : Sb C W (tPar3 i j l ta) (mSets f [i, j, l]) := by
  intro F0 H0 L s σ F H E g k
  refine h _ _ _ _ _ _ _ _ g (po_imp (pos_bind k) fun xs s1 F1 H1 g1 e1 k1 vs rv => ?_)
  by_cases hl : xs.length = 3 ∧ xs.length ≤ 1000
  · simp only [List.length_cons, List.length_nil] at k1
    rw [if_pos hl] at k1
    have g2 := Good.setMany [i, j, l] vs xs g1 rv
    have hv := rv.length
    match vs, xs, hl, hv, g2, k1, rv with
    | [u, v, w], [x, y, z], _, _, g2, k1, _ => exact ⟨u, v, w, rfl, k1 _ F1 H1 g2 (Same.refl _)⟩
    | [], _, hl, hv, _, _, _ => simp at hv; omega
    | [_], _, hl, hv, _, _, _ => simp at hv; omega
    | [_, _], _, hl, hv, _, _, _ => simp at hv; omega
    | _ :: _ :: _ :: _ :: _, _, hl, hv, _, _, _ => simp at hv; omega
    | [_, _, _], [], hl, hv, _, _, _ => simp at hv
    | [_, _, _], [_], hl, hv, _, _, _ => simp at hv
    | [_, _, _], [_, _], hl, hv, _, _, _ => simp at hv
    | [_, _, _], _ :: _ :: _ :: _ :: _, hl, hv, _, _, _ => simp at hl
  · simp only [List.length_cons, List.length_nil] at k1
    rw [if_neg hl] at k1
    exact k1.elim
/-- names stored from a tuple that is made on the way -/
def gNames : List Nat → TGs
  | [] => gNil
  | i :: is => gCons (gName i) (gNames is)
theorem gNames_run : ∀ (is : List Nat) (vs : List V) (σ : L2.St) (H : Hp) (Q : L2.St → Hp → Prop), vs.length = is.length → Q ((is.zip vs).foldl (fun e p => e.set p.1 (some p.2)) σ) H → gNames is vs σ H Q
  | [], [], σ, H, Q, _, q => ⟨rfl, q⟩
  | [], _ :: _, _, _, _, h, _ => by simp at h
  | _ :: _, [], _, _, _, h, _ => by simp at h
  | i :: is, v :: vs, σ, H, Q, h, q => ⟨v, vs, rfl, gNames_run is vs (σ.set i (some v)) H Q (by simpa using h) q⟩
theorem SlotVs.alloc {p : Addr} {o : HO} (g : Good C F0 H0 L s σ F H) (hp : H p = none) : ∀ {vs : List V} {xs : List Slot}, SlotVs C H0 s σ F H vs xs → SlotVs C H0 s σ F (upd H p o) vs xs
  | [], [], _ => trivial
  | v :: vs, x :: xs, h => by
    refine ⟨?_, SlotVs.alloc g hp h.2.1, h.2.2⟩
    have k := h.1
    cases x with
    | un => trivial
    | fz d => exact k
    | pt n => exact k
    | bw xs => exact k.elim
    | ol xs =>
      obtain ⟨q, vs, e1, t1, h1, h2⟩ := k
      exact ⟨q, vs, e1, ⟨t1.f, t1.h0, t1.no⟩, by rw [upd_ne (ne_of_none h1 hp)]; exact h1, h2⟩
    | od xs =>
      obtain ⟨q, vs, e1, t1, h1, h2⟩ := k
      exact ⟨q, vs, e1, ⟨t1.f, t1.h0, t1.no⟩, by rw [upd_ne (ne_of_none h1 hp)]; exact h1, h2⟩
  | [], _ :: _, h => h.elim
  | _ :: _, [], h => h.elim
theorem sb_tupset {is : List Nat} {n : Nat} {ta : TA} {f : M T (List Slot)} (hn : n = is.length) (h : Sas C W ta f) : Sb C W (tAsg (tTup ta) (gTup C.K n (gNames is))) (mSets f is) := by
  subst hn
  intro F0 H0 L s σ F H E g k
  refine h _ _ _ _ _ _ _ _ g (po_imp (pos_bind k) fun xs s1 F1 H1 g1 e1 k1 vs rv => ?_)
  by_cases hl : xs.length = is.length ∧ xs.length ≤ 1000
  · rw [if_pos hl] at k1
    have hv := rv.length
    refine ⟨sz_ok (by omega), fun p hp => ⟨p, vs, rfl, .inl (.inl upd_same), by omega, gNames_run is vs _ _ _ (by omega) ?_⟩⟩
    exact k1 _ F1 _ (Good.setMany is vs xs (g1.alloc hp) (rv.alloc g1 hp)) (Same.refl _)
  · rw [if_neg hl] at k1
    exact k1.elim
end
end Pm

set_option Elab.async false
set_option linter.all false
set_option maxRecDepth 100000
/-! List comprehensions; defs. -/
namespace Pm
open PySem L2 RZ

def wipeE (env : List Slot) : List Nat → List Slot
  | [] => env
  | v :: vs => (wipeE env vs).set v .un
def okS : Option Slot → Bool
  | some (.fz _) => true
  | some .un => true
  | _ => false
def okW (env : List Slot) (vs : List Nat) : Bool := vs.all fun v => okS env[v]?
def restE (old new : List Slot) : List Nat → List Slot
  | [] => new
  | v :: vs => (restE old new vs).set v (old.getD v .un)
def mTurn {T : Type} (p : D → M T Unit) (ft : M T Bool) (fe : M T D) (d : D) : M T (Option D) := mBlk (mBind (p d) fun _ => mBind ft fun k => match k with
  | true => mBind fe fun x => mRet (some x)
  | false => mRet none)
def addO (acc : List D) : Option D → List D
  | some x => acc ++ [x]
  | none => acc
def mLcL {T : Type} (vs : List Nat) (f : D → M T (Option D)) : List D → List D → M T (List D)
  | [], acc => mRet acc
  | d :: ds, acc => mBind (f d) fun o s => mLcL vs f ds (addO acc o) ⟨wipeE s.env vs, s.t⟩
def mLc {T : Type} (vs : List Nat) (fi : M T (List D)) (p : D → M T Unit) (ft : M T Bool) (fe : M T D) : M T Slot := mBind fi fun items s =>
  if (okW s.env vs && decide (items.length ≤ lim)) = true then
    match mLcL vs (mTurn p ft fe) items [] ⟨wipeE s.env vs, s.t⟩ with
    | .ok acc s' => .ok (.ol acc) ⟨restE s.env s'.env vs, s'.t⟩
    | _ => .stuck
  else .stuck

section
variable {T : Type} {C : Ct T} {W : WX} {F0 H0 F F1 H : Hp} {L : Nat → Option Addr} {s : S T} {σ : L2.St} {α β : Type}
theorem wipeE_length (env : List Slot) : ∀ vs : List Nat, (wipeE env vs).length = env.length
  | [] => rfl
  | v :: vs => by unfold wipeE; rw [List.length_set, wipeE_length env vs]
theorem restE_length (old new : List Slot) : ∀ vs : List Nat, (restE old new vs).length = new.length
  | [] => rfl
  | v :: vs => by unfold restE; rw [List.length_set, restE_length old new vs]
theorem wipeE_at {env : List Slot} {i : Nat} {x : Slot} : ∀ {vs : List Nat}, (wipeE env vs)[i]? = some x → x = .un ∨ (env[i]? = some x ∧ i ∉ vs)
  | [], h => .inr ⟨h, by simp⟩
  | v :: vs, h => by
    unfold wipeE at h
    by_cases e : v = i
    · subst e
      by_cases hl : v < (wipeE env vs).length
      · rw [List.getElem?_set_self hl] at h; cases h; exact .inl rfl
      · rw [List.getElem?_eq_none (by simpa using hl)] at h; cases h
    · rw [List.getElem?_set_ne e] at h
      rcases wipeE_at h with z | ⟨z, n⟩
      · exact .inl z
      · exact .inr ⟨z, by simp only [List.mem_cons, not_or]; exact ⟨fun q => e q.symm, n⟩⟩
theorem restE_at {old new : List Slot} {i : Nat} {x : Slot} : ∀ {vs : List Nat}, (restE old new vs)[i]? = some x → (i ∈ vs ∧ x = old.getD i .un) ∨ (new[i]? = some x ∧ i ∉ vs)
  | [], h => .inr ⟨h, by simp⟩
  | v :: vs, h => by
    unfold restE at h
    by_cases e : v = i
    · subst e
      by_cases hl : v < (restE old new vs).length
      · rw [List.getElem?_set_self hl] at h; cases h; exact .inl ⟨by simp, rfl⟩
      · rw [List.getElem?_eq_none (by simpa using hl)] at h; cases h
    · rw [List.getElem?_set_ne e] at h
      rcases restE_at h with ⟨z, n⟩ | ⟨z, n⟩
      · exact .inl ⟨List.mem_cons_of_mem _ z, n⟩
      · exact .inr ⟨z, by simp only [List.mem_cons, not_or]; exact ⟨fun q => e q.symm, n⟩⟩
/-- other slots, of which each is nothing, as it was, or a frozen value -/
theorem Good.remix (g : Good C F0 H0 L s σ F H) {env' : List Slot} {σ' : L2.St} (hl : env'.length = σ'.length)
    (h : ∀ (i : Nat) (x : Slot), env'[i]? = some x → x = .un ∨ (s.env[i]? = some x ∧ σ'[i]? = σ[i]?) ∨ ∃ d v, x = .fz d ∧ σ'[i]? = some (some v) ∧ Rep C.K F v d) : Good C F0 H0 L ⟨env', s.t⟩ σ' F H where
  len := hl
  sub := g.sub
  ext0 := g.ext0
  base := g.base
  newF := g.newF
  fp0 := g.fp0
  fpF := g.fpF
  fpH := g.fpH
  lH := g.lH
  slots := fun i x hx => by
    rcases h i x hx with rfl | ⟨h1, h2⟩ | ⟨d, v, rfl, h1, h2⟩
    · trivial
    · have k := g.slots i x h1
      rw [← h2] at k
      exact k
    · exact ⟨v, h1, h2⟩
  sep := fun i j x y p hij hx hy ox oy e1 e2 => by
    rcases h i x hx with rfl | ⟨h1, h2⟩ | ⟨d, v, rfl, _, _⟩
    · cases ox
    · rcases h j y hy with rfl | ⟨h3, h4⟩ | ⟨d, v, rfl, _, _⟩
      · cases oy
      · exact g.sep i j x y p hij h1 h3 ox oy (by rw [← h2]; exact e1) (by rw [← h4]; exact e2)
      · cases oy
    · cases ox
  j := g.j
theorem Tmp.remix {p : Addr} (t : Tmp C H0 s σ F H p) {env' : List Slot} {σ' : L2.St}
    (h : ∀ (i : Nat) (x : Slot), env'[i]? = some x → x = .un ∨ (s.env[i]? = some x ∧ σ'[i]? = σ[i]?) ∨ ∃ d v, x = .fz d ∧ σ'[i]? = some (some v) ∧ Rep C.K F v d) : Tmp C H0 ⟨env', s.t⟩ σ' F H p :=
  ⟨t.f, t.h0, fun i x hx ox e => by
    rcases h i x hx with rfl | ⟨h1, h2⟩ | ⟨d, v, rfl, _, _⟩
    · cases ox
    · exact t.no i x h1 ox (by rw [← h2]; exact e)
    · cases ox⟩
theorem wipe_mix (env : List Slot) (σ : L2.St) (vs : List Nat) : ∀ (i : Nat) (x : Slot), (wipeE env vs)[i]? = some x → x = .un ∨ (env[i]? = some x ∧ (wipe σ vs)[i]? = σ[i]?) ∨ ∃ d v, x = .fz d ∧ (wipe σ vs)[i]? = some (some v) ∧ Rep C.K F v d := fun i x h => by
  rcases wipeE_at h with z | ⟨z, n⟩
  · exact .inl z
  · exact .inr (.inl ⟨z, wipe_other n⟩)
theorem Good.wiped (g : Good C F0 H0 L s σ F H) (vs : List Nat) : Good C F0 H0 L ⟨wipeE s.env vs, s.t⟩ (wipe σ vs) F H := g.remix (by rw [wipeE_length, wipe_length, g.len]) (wipe_mix s.env σ vs)
/-- the temporary is changed -/
theorem Good.updTmp (g : Good C F0 H0 L s σ F H) {p : Addr} {o : HO} (t : Tmp C H0 s σ F H p) : Good C F0 H0 L s σ F (upd H p o) where
  len := g.len
  sub := fun a o' e => by
    rw [upd_ne (ne_of_none e t.f)]
    exact g.sub a o' e
  ext0 := g.ext0
  base := fun a o' e z => by
    rw [upd_ne (ne_of_none e t.h0)]
    exact g.base a o' e z
  newF := g.newF
  fp0 := g.fp0
  fpF := g.fpF
  fpH := fun a z => by
    rw [upd_ne (fun y => g.fp0 a z (by rw [y]; exact t.h0))]
    exact g.fpH a z
  lH := g.lH
  slots := fun i x hx => by
    have k := g.slots i x hx
    cases x with
    | un => trivial
    | fz d => exact k
    | pt n => exact k
    | bw xs => exact k
    | ol xs =>
      obtain ⟨q, vs, h1, h2, h3, h4, h5⟩ := k
      refine ⟨q, vs, h1, h2, h3, ?_, h5⟩
      rw [upd_ne (fun y => t.no i _ hx rfl (by rw [h1, y]))]
      exact h4
    | od xs =>
      obtain ⟨q, vs, h1, h2, h3, h4, h5⟩ := k
      refine ⟨q, vs, h1, h2, h3, ?_, h5⟩
      rw [upd_ne (fun y => t.no i _ hx rfl (by rw [h1, y]))]
      exact h4
  sep := g.sep
  j := C.stab s.t F H F _ g.j (Same.refl F) fun a z => upd_ne fun y => g.fp0 a z (by rw [y]; exact t.h0)
theorem wipe_wipe {vs : List Nat} : wipe (wipe σ vs) vs = wipe σ vs := by
  apply List.ext_getElem?
  intro j
  by_cases hj : j ∈ vs
  · rw [wipe_none hj, wipe_none hj, wipe_length]
  · rw [wipe_other hj]
abbrev W0 : WX := fun _ _ _ _ => False
theorem se_lc {wi : TI} {fi : M T (List D)} {tg : TG} {is : List Nat} {p : D → M T Unit} {tt : TT} {ft : M T Bool} {te : TE} {fe : M T D} {vs : List Nat} (hi : Si C W wi fi) (hg : Sg C tg is p) (his : ∀ i ∈ is, i ∈ vs) (ht : Stt C W0 tt ft) (he : Sv C W0 te fe) :
    Se C W (tLc wi tg tt te vs) (mLc vs fi p ft fe) := by
  intro F0 H0 L s σ F H Q g k
  refine hi _ _ _ _ _ _ _ _ g (po_imp (po_bind k) fun items s1 F1 H1 g1 e1 k1 J it => ?_)
  by_cases hc : (okW s1.env vs && decide (items.length ≤ lim)) = true
  · rw [if_pos hc] at k1
    rw [Bool.and_eq_true] at hc
    have hlim : items.length ≤ lim := of_decide_eq_true hc.2
    cases q : mLcL vs (mTurn p ft fe) items [] ⟨wipeE s1.env vs, s1.t⟩ with
    | exc c s' => rw [q] at k1; exact k1.elim
    | stuck => rw [q] at k1; exact k1.elim
    | ok fin sf =>
      rw [q] at k1
      intro Dl hD
      obtain ⟨G, Y, w, hG, hY⟩ := it.ok
      refine lc_it w (fun i H' => ∃ s' F' acc avs, Good C F0 H0 L s' (wipe σ vs) F' H' ∧ Same F1 F' ∧ Tmp C H0 s' (wipe σ vs) F' H' Dl ∧ H' Dl = some (.lst avs) ∧ RepL C.K F' avs acc ∧ acc.length ≤ i ∧ mLcL vs (mTurn p ft fe) (items.drop i) acc s' = .ok fin sf) ?_ ?_ ?_ ?_
      · exact ⟨_, F1, [], [], (g1.alloc hD).wiped vs, Same.refl _, (Tmp.fresh g1 hD).remix (wipe_mix s1.env σ vs), upd_same, .nil, Nat.zero_le _, q⟩
      · rintro i H' hi' ⟨s', F', acc, avs, g', e', _⟩
        exact hG F' H' e' g'.sub
      · rintro i x H2 H3 hi' ⟨s2, F2, acc, avs, g2, e2, t2, h2, r2, l2, k2⟩ y
        have hd : items[i]? = some items[i] := by simp [hi']
        have hdrop : items.drop i = items[i] :: items.drop (i + 1) := List.drop_eq_getElem_cons hi'
        rw [hdrop] at k2
        have f0 : F0 Dl = none := Same.free g2.ext0 t2.f
        have pf : Dl ∉ C.fp := fun z => g2.fp0 Dl z t2.h0
        have lH := g2.lH
        have g3 := g2.protect t2 h2
        obtain ⟨F3, g4, e3, r3⟩ : ∃ F3, Good C F0 (upd H0 Dl (.lst avs)) L s2 (wipe σ vs) F3 H3 ∧ Same F2 F3 ∧ Rep C.K F3 x items[i] := by
          rcases hY i x F2 H2 H3 _ e2 g3.sub hd y with ⟨rfl, r⟩ | ⟨tp, a, b, da, db, rfl, hn, rfl, ra, rb, ed⟩
          · exact ⟨F2, g3, Same.refl _, r⟩
          · have e := Same.updN (o := HO.tup [a, b]) (g3.sub.nn hn)
            rw [ed]
            exact ⟨_, g3.allocF hn, e, .tup (.inl (.inl upd_same)) (.cons (ra.mono e) (.cons (rb.mono e) .nil))⟩
        -- the turn's steps
        have k3 : ∃ s3 b s4, p items[i] s2 = .ok () s3 ∧ ft s3 = .ok b s4 ∧
            ((b = true ∧ ∃ z s5, fe s4 = .ok z s5 ∧ mLcL vs (mTurn p ft fe) (items.drop (i + 1)) (acc ++ [z]) ⟨wipeE s5.env vs, s5.t⟩ = .ok fin sf) ∨ (b = false ∧ mLcL vs (mTurn p ft fe) (items.drop (i + 1)) acc ⟨wipeE s4.env vs, s4.t⟩ = .ok fin sf)) := by
          simp only [mLcL, mBind, mTurn, mBlk] at k2
          cases q1 : p items[i] s2 with
          | exc c s' => (try simp only [q1] at k2); cases k2
          | stuck => (try simp only [q1] at k2); cases k2
          | ok u s3 =>
            (try simp only [q1] at k2)
            (try dsimp only at k2)
            cases q2 : ft s3 with
            | exc c s' => (try simp only [q2] at k2); cases k2
            | stuck => (try simp only [q2] at k2); cases k2
            | ok b s4 =>
              (try simp only [q2] at k2)
              (try dsimp only at k2)
              refine ⟨s3, b, s4, rfl, q2, ?_⟩
              cases b with
              | false => exact .inr ⟨rfl, k2⟩
              | true =>
                simp only [mBind] at k2
                cases q3 : fe s4 with
                | exc c s' => (try simp only [q3] at k2); cases k2
                | stuck => (try simp only [q3] at k2); cases k2
                | ok z s5 =>
                  (try simp only [q3] at k2)
                  (try dsimp only at k2)
                  exact .inl ⟨rfl, z, s5, rfl, k2⟩
        obtain ⟨s3, b, s4, q1, q2, q3⟩ := k3
        refine hg _ _ _ _ _ _ _ _ _ _ g4 r3 ?_
        rw [q1]
        intro σ3 g5 w5
        have w6 : wipe σ3 vs = wipe σ vs := (w5 vs his).trans wipe_wipe
        refine ⟨w6, ht _ _ _ _ _ _ _ _ g5 ?_⟩
        rw [q2]
        intro F4 H4 g6 e6
        rcases q3 with ⟨rfl, z, s5, q3, k4⟩ | ⟨rfl, k4⟩
        · refine iteT (he _ _ _ _ _ _ _ _ g6 ?_)
          rw [q3]
          intro F5 H5 g7 e7 yv ry
          obtain ⟨g8, t8, h8⟩ := g7.unprotect t2.h0 f0 pf lH
          refine ⟨avs, h8, ?_, ?_⟩
          · rw [r2.length]
            exact Nat.lt_of_le_of_lt l2 (Nat.lt_of_lt_of_le hi' (lim_ok hlim))
          · have g9 := g8.updTmp (o := HO.lst (avs ++ [yv])) t8
            have g10 := g9.wiped vs
            rw [w6] at g10
            have t10 : Tmp C H0 ⟨wipeE s5.env vs, s5.t⟩ (wipe σ vs) F5 (upd H5 Dl (.lst (avs ++ [yv]))) Dl := by
              have := Tmp.remix (env' := wipeE s5.env vs) (σ' := wipe σ3 vs) ⟨t8.f, t8.h0, t8.no⟩ (wipe_mix s5.env σ3 vs) (C := C) (F := F5) (H := upd H5 Dl (.lst (avs ++ [yv]))) (s := s5)
              rw [w6] at this
              exact this
            exact ⟨_, F5, acc ++ [z], avs ++ [yv], g10, ((e2.trans e3).trans e6).trans e7, t10, upd_same, (((r2.mono e3).mono e6).mono e7).snoc ry, by simp; omega, k4⟩
        · refine iteF ?_
          obtain ⟨g8, t8, h8⟩ := g6.unprotect t2.h0 f0 pf lH
          have g10 := g8.wiped vs
          rw [w6] at g10
          have t10 : Tmp C H0 ⟨wipeE s4.env vs, s4.t⟩ (wipe σ vs) F4 H4 Dl := by
            have := Tmp.remix (env' := wipeE s4.env vs) (σ' := wipe σ3 vs) t8 (wipe_mix s4.env σ3 vs)
            rw [w6] at this
            exact this
          exact ⟨_, F4, acc, avs, g10, (e2.trans e3).trans e6, t10, h8, (r2.mono e3).mono e6, by omega, k4⟩
      · rintro H2 ⟨s2, F2, acc, avs, g2, e2, t2, h2, r2, l2, k2⟩
        rw [List.drop_eq_nil_of_le (Nat.le_refl _)] at k2
        have k3 : Res.ok acc s2 = Res.ok fin sf := k2
        cases k3
        have mix : ∀ (i : Nat) (x : Slot), (restE s1.env sf.env vs)[i]? = some x → x = .un ∨ (sf.env[i]? = some x ∧ σ[i]? = (wipe σ vs)[i]?) ∨ ∃ d v, x = .fz d ∧ σ[i]? = some (some v) ∧ Rep C.K F2 v d := fun i x h => by
          rcases restE_at h with ⟨hm, ex⟩ | ⟨h1, h2⟩
          · have ok := List.all_eq_true.mp hc.1 i hm
            cases q5 : s1.env[i]? with
            | none => rw [List.getD_eq_getElem?_getD, q5] at ex; exact .inl ex
            | some z =>
              rw [List.getD_eq_getElem?_getD, q5] at ex
              have ex : x = z := ex
              subst ex
              rw [q5] at ok
              cases x with
              | un => exact .inl rfl
              | fz d =>
                obtain ⟨v, h3, h4⟩ := g1.slots i _ q5
                exact .inr (.inr ⟨d, v, rfl, h3, h4.mono e2⟩)
              | _ => cases ok
          · exact .inr (.inl ⟨h1, (wipe_other h2).symm⟩)
        have hlen : (restE s1.env sf.env vs).length = σ.length := by rw [restE_length, g2.len, wipe_length]
        exact k1 F2 H2 (g2.remix hlen mix) e2 _ ⟨Dl, avs, rfl, t2.remix mix, h2, r2⟩
  · rw [if_neg hc] at k1
    exact k1.elim
end

/-! ### defs -/
def CU (K : PySem.W.Frag) (cls : Nat → Addr) : Ct Unit where
  ptr := fun _ => 0
  fp := []
  J := fun _ _ _ => True
  stab := fun _ _ _ _ _ _ _ _ => trivial
  K := K
  cls := cls
abbrev WofE (E : XK) : WX := fun c d _ H => E c d H
def outOf {T : Type} : Res T Out → Rp
  | .ok (.ret d) _ => .ok d
  | .ok .nx _ => .ok .none
  | .exc c _ => .exc c
  | _ => .stuck
def env0 (k n : Nat) (ds : List D) : List Slot := ds.map .fz ++ List.replicate (n - k) .un
def fnP (k n : Nat) (body : M Unit Out) (ds : List D) : Rp := if ds.length = k then outOf (body ⟨env0 k n ds, ()⟩) else .stuck
theorem RepL.begin0 {K : PySem.W.Frag} {F : Hp} {N : List Str} {vs : List V} {ds : List D} (r : RepL K F vs ds) (h : ds.length ≤ N.length) : (env0 ds.length N.length ds).length = (L2.start N vs).length ∧
    ∀ (i : Nat) (x : Slot), (env0 ds.length N.length ds)[i]? = some x → x = .un ∨ ∃ d v, x = .fz d ∧ (L2.start N vs)[i]? = some (some v) ∧ Rep K F v d := by
  have e := r.length
  refine ⟨?_, fun i x hx => ?_⟩
  · unfold env0 L2.start
    simp [e]
  · unfold env0 at hx
    by_cases hi : i < ds.length
    · rw [List.getElem?_append_left (by simpa using hi), List.getElem?_map] at hx
      cases q : ds[i]? with
      | none => rw [q] at hx; cases hx
      | some d =>
        rw [q] at hx; cases hx
        obtain ⟨v, h1, h2⟩ := r.get q
        refine .inr ⟨d, v, rfl, ?_, h2⟩
        unfold L2.start
        rw [List.getElem?_append_left (by rw [List.length_map, e]; exact hi), List.getElem?_map, h1]
        rfl
    · rw [List.getElem?_append_right (by simpa using hi), List.getElem?_replicate] at hx
      split at hx
      · cases hx; exact .inl rfl
      · cases hx
section
variable {P : Program} {w : World} {K : PySem.W.Frag} {mg : Str → Option Value} {base : Heap} {cls : Nat → Addr}
/-- a def of the text that keeps all that was tracked -/
theorem okP {x qual : Str} {st : Stmt} {f : Addr} {fd : FuncData} {N ps : List Str} {k : Nat} {m : M Unit Out} (F : Fun K x qual st f fd) (S : FnScope N ps (defScope st))
    (hbody : ∀ (cdv : Value) (A : Around) (outer : List Env) (s : Shared) (H : Hp) (E : XK), Room k (A.deeper (PyProof.Rows.envOfC qual (defScope st) s.heap.objs.size f cdv)) →
      ∃ t, PSs (cxOf (L2.CX P w) P w K mg base N qual (defScope st) f cdv A outer s H E) (defBody st) t ∧ Sb (CU K cls) (WofE E) t m) :
    FnOk P w K mg base (L2.CX P w) (k + 1) f fd ps (spP K cls (fnP ps.length N.length m)) := by
  have hpl : ps.length ≤ N.length := by
    have e := congrArg List.length S.pre
    rw [List.length_take] at e
    omega
  refine F.okX S (fun vs H Q E h => ?_) (fun cdv A outer s H vs Q E hr h => ?_)
  · obtain ⟨F1, ds, u, r, q⟩ := h
    unfold fnP at q
    by_cases hl : ds.length = ps.length
    · rw [r.length, hl]
    · rw [if_neg hl] at q; exact q.elim
  · obtain ⟨F1, ds, u, r, q⟩ := h
    obtain ⟨t, ht, sb⟩ := hbody cdv A outer s H E hr
    refine ⟨t, ht, ?_⟩
    unfold fnP at q
    by_cases hl : ds.length = ps.length
    · rw [if_pos hl] at q
      rw [← hl] at q
      obtain ⟨hlen, hs⟩ := r.begin0 (N := N) (by omega)
      have g : Good (CU K cls) F1 H (fun _ => none) ⟨env0 ds.length N.length ds, ()⟩ (L2.start N vs) F1 H :=
        { len := hlen
          sub := u
          ext0 := Same.refl _
          base := fun a o e _ => e
          newF := fun a o e => .inl e
          fp0 := fun a z => nomatch (show a ∈ ([] : List Addr) from z)
          fpF := fun a z => nomatch (show a ∈ ([] : List Addr) from z)
          fpH := fun a z => nomatch (show a ∈ ([] : List Addr) from z)
          lH := fun _ _ z => nomatch z
          slots := fun i x hx => by
            rcases hs i x hx with rfl | ⟨d, v, rfl, h1, h2⟩
            · trivial
            · exact ⟨v, h1, h2⟩
          sep := fun i j x y p _ hx _ ox => by
            rcases hs i x hx with rfl | ⟨d, v, rfl, h1, h2⟩ <;> cases ox
          j := trivial }
      have aft : ∀ s' σ' F' H', Good (CU K cls) F1 H (fun _ => none) s' σ' F' H' → Same F1 F' → Aft F1 H F' H' := fun s' σ' F' H' g' e => ⟨e, g'.sub, g'.newF, fun a o h => g'.base a o h (by intro z; cases z)⟩
      refine sb _ _ _ _ _ _ _ _ g ?_
      cases e : m ⟨env0 ds.length N.length ds, ()⟩ with
      | stuck => rw [e] at q; exact q.elim
      | exc c s' =>
        rw [e] at q
        exact fun σ' F' H' g' e' => q F' H' (aft s' σ' F' H' g' e')
      | ok o s' =>
        rw [e] at q
        cases o with
        | bk => exact q.elim
        | ct => exact q.elim
        | nx => exact fun σ' F' H' g' e' => q .non F' H' (aft s' σ' F' H' g' e') .non
        | ret d => exact fun v σ' F' H' g' e' r' => q v F' H' (aft s' σ' F' H' g' e') r'
    · rw [if_neg hl] at q; exact q.elim
end
end Pm

set_option Elab.async false
set_option linter.all false
set_option maxRecDepth 100000
/-! Both sides in one: the hand layer's term and what it keeps to. -/
namespace Pm
open PySem L2 RZ

/-- b: no exception is being handled -/
structure CurB (b : Bool) {T : Type} (X : Cx) (C : Ct T) (W : WX) (k : Nat) (cls : Nat → Addr) (K : PySem.W.Frag) : Prop where
  un : X.A.units + 64 < cLine
  hX : X.K = K
  hK : C.K = K
  nd : X.N.Nodup
  hc : C.cls = cls
  co : b = true → Takes X W ∧ Room k X.A ∧ X.calm = true
abbrev Cur {T : Type} (X : Cx) (C : Ct T) (W : WX) (k : Nat) (cls : Nat → Addr) (K : PySem.W.Frag) : Prop := CurB true X C W k cls K
section
variable {T : Type} {X : Cx} {C : Ct T} {W : WX} {k : Nat} {cls : Nat → Addr} {K : PySem.W.Frag}
theorem CurB.tk (q : Cur X C W k cls K) : Takes X W := (q.co rfl).1
theorem CurB.hr (q : Cur X C W k cls K) : Room k X.A := (q.co rfl).2.1
theorem CurB.calm (q : Cur X C W k cls K) : X.calm = true := (q.co rfl).2.2
theorem Cur.mk' (tk : Takes X W) (hr : Room k X.A) (hX : X.K = K) (hK : C.K = K) (calm : X.calm = true) (nd : X.N.Nodup) (hc : C.cls = cls) : Cur X C W k cls K := ⟨by have := hr.units; omega, hX, hK, nd, hc, fun _ => ⟨tk, hr, calm⟩⟩
end
structure DV {T : Type} (X : Cx) (C : Ct T) (W : WX) (e : Expr) (t : TE) (f : M T D) : Prop where
  pe : PE X e t
  sv : Sv C W t f
structure DE {T : Type} (X : Cx) (C : Ct T) (W : WX) (e : Expr) (t : TE) (f : M T Slot) : Prop where
  pe : PE X e t
  sv : Se C W t f
structure DT {T : Type} (X : Cx) (C : Ct T) (W : WX) (e : Expr) (t : TT) (f : M T Bool) : Prop where
  pe : PT X e t
  sv : Stt C W t f
structure DW {T : Type} (X : Cx) (C : Ct T) (W : WX) (e : Expr) (t : TT) (f : M T Bool) : Prop where
  pe : PW X e t
  sv : Stt C W t f
structure DTs {T : Type} (X : Cx) (C : Ct T) (W : WX) (e : List Expr) (t : TT) (f : M T Bool) : Prop where
  pe : PTs X e t
  sv : Stt C W t f
structure DA {T : Type} (X : Cx) (C : Ct T) (W : WX) (es : List Expr) (t : TA) (f : M T (List D)) : Prop where
  pe : PA X es t
  sv : Sa C W t f
structure DAs {T : Type} (X : Cx) (C : Ct T) (W : WX) (es : List Expr) (t : TA) (f : M T (List Slot)) : Prop where
  pe : PA X es t
  sv : Sas C W t f
structure DO {T : Type} (X : Cx) (C : Ct T) (W : WX) (e : Option Expr) (t : TO) (f : M T (Option Int)) : Prop where
  pe : PO X e t
  sv : So C W t f
structure DI {T : Type} (X : Cx) (C : Ct T) (W : WX) (tg e : Expr) (t : TI) (f : M T (List D)) : Prop where
  pe : PI X tg e t
  sv : Si C W t f
structure DG {T : Type} (X : Cx) (C : Ct T) (tg : Expr) (g : TG) (is : List Nat) (p : D → M T Unit) : Prop where
  pe : PG X tg g
  sv : Sg C g is p
structure DGs {T : Type} (X : Cx) (C : Ct T) (tg : List Expr) (g : TGs) (is : List Nat) (p : List D → M T Unit) : Prop where
  pe : PGs X tg g
  sv : Sgs C g is p
structure DS {T : Type} (X : Cx) (C : Ct T) (W : WX) (st : Stmt) (t : TS) (f : M T Out) : Prop where
  pe : PS X st t
  sv : Sb C W t f
structure DSs {T : Type} (X : Cx) (C : Ct T) (W : WX) (st : List Stmt) (t : TS) (f : M T Out) : Prop where
  pe : PSs X st t
  sv : Sb C W t f

def truthD : D → Option Bool
  | .none => some false
  | .bool b => some b
  | .int i => some (i != 0)
  | .str z => if z.length ≤ lim then some ((z.length : Int) != 0) else none
  | .list xs => some (!xs.isEmpty)
  | .tuple xs => some (!xs.isEmpty)
  | .dict kvs => none
def mTruth {T : Type} (f : M T D) : M T Bool := mBind f fun d => mLift (truthD d)
abbrev tTru (K : PySem.W.Frag) (ta : TE) : TT := fun σ H Q => ta σ H fun x H' => ∃ k, TruV K x H' k ∧ Q k H'

section
variable {T : Type} {X : Cx} {C : Ct T} {W : WX} {k : Nat} {cls : Nat → Addr} {K : PySem.W.Frag} {a b c e : Expr} {es : List Expr} {pos : Pos} {ta tb tc : TE} {fa fb fc : M T D} {t u : TT} {ft fu : M T Bool}
theorem stt_truth (h : Sv C W ta fa) : Stt C W (tTru C.K ta) (mTruth fa) := by
  intro F0 H0 L s σ F H Q g q
  refine h _ _ _ _ _ _ _ _ g (po_imp (po_bind q) fun d s1 F1 H1 g1 e1 h1 v rv => ?_)
  obtain ⟨b, q2, h2⟩ := po_lift h1
  have h3 := po_ret h2 g1
  refine ⟨b, ?_, h3⟩
  cases rv with
  | non => cases q2; rfl
  | bl b => cases q2; rfl
  | int i => cases q2; rfl
  | str z =>
    dsimp only [truthD] at q2
    by_cases hl : z.length ≤ lim
    · rw [if_pos hl] at q2; cases q2; exact ⟨lim_ok hl, rfl⟩
    · rw [if_neg hl] at q2; cases q2
  | lst hx r =>
    cases q2
    refine .inl ⟨_, SqL.of (g1.sub.lst hx), ?_⟩
    cases r <;> rfl
  | tup hx r =>
    cases q2
    refine .inr (.inl ⟨_, g1.sub.tup hx, ?_⟩)
    cases r <;> rfl
  | dic hx r => cases q2
theorem CurB.blk (q : Cur X C W k cls K) (s : Shared) (H : Hp) (scope : Scope) (cenv : Env) (fp : List Addr) : Cur (X.blk s H scope cenv fp) C W0 k cls K := Cur.mk' takes0 q.hr q.hX q.hK q.calm q.nd q.hc
theorem CurB.units {bb : Bool} (q : CurB bb X C W k cls K) : X.A.units + 64 < cLine := q.un
-- leaves
theorem dv_var (i : Nat) {x : Str} (hN : X.N[i]? = some x := by rfl) (hv : Vis X.env.scope x := by first | exact Or.inl rfl | exact Or.inr (Or.inl rfl) | exact Or.inr (Or.inr rfl)) (hd : (x == ("__debug__" : Str)) = false := by decide)
    (hcd : (x == ("__classdict__" : Str)) = false := by decide) : DV X C W (.Name x pos) (tVar i) (mVar i) := ⟨pe_var hN hv hd hcd, sv_var i⟩
theorem dv_int {i : Int} {j : Nat} : DV X C W (.Constant (.int i) j pos) (tC (.int i)) (mRet (.int i)) := ⟨pe_int, sv_int⟩
theorem dv_bl {b : Bool} {j : Nat} : DV X C W (.Constant (.bool b) j pos) (tC (.bl b)) (mRet (.bool b)) := ⟨pe_bl, sv_bl⟩
theorem dv_non {j : Nat} : DV X C W (.Constant .none j pos) (tC .non) (mRet .none) := ⟨pe_non, sv_non⟩
theorem dv_str {x : Str} {j : Nat} : DV X C W (.Constant (.str x) j pos) (tC (.str x)) (mRet (.str x)) := ⟨pe_str, sv_str⟩
theorem dv_glob {x : Str} {v : V} {u : Value} {d : D} (hm : X.mg x = some u) (r : RelV v u) (hr : ∀ F, Rep C.K F v d) (hg : Gl X x := by rfl) (hd : (x == ("__debug__" : Str)) = false := by decide) : DV X C W (.Name x pos) (tC v) (mRet d) := ⟨pe_glob hg hm r hd, sv_c hr⟩
-- operators
theorem dv_add {bb : Bool} (q : CurB bb X C W k cls K) (ha : DV X C W a ta fa) (hb : DV X C W b tb fb) : DV X C W (.BinOp a .Add b pos) (tOp (rAddA K) ta tb) (mOp opAdd fa fb) := ⟨by rw [← q.hX]; exact pe_op or_add ha.pe hb.pe, by rw [← q.hK]; exact sv_op ha.sv hb.sv rv_add⟩
theorem dv_sub (ha : DV X C W a ta fa) (hb : DV X C W b tb fb) : DV X C W (.BinOp a .Sub b pos) (tOp (rI0 fun i j => .int (i - j)) ta tb) (mOp opSub fa fb) := ⟨pe_op op_sub ha.pe hb.pe, sv_op ha.sv hb.sv rv_sub⟩
theorem dv_mul (ha : DV X C W a ta fa) (hb : DV X C W b tb fb) : DV X C W (.BinOp a .Mult b pos) (tOp (rOr (rI CMulW fun i j => .int (i * j)) rRep) ta tb) (mOp opMul fa fb) := ⟨pe_op (op_mulW.or op_rep) ha.pe hb.pe, sv_op ha.sv hb.sv rv_mul⟩
theorem dv_div (ha : DV X C W a ta fa) (hb : DV X C W b tb fb) : DV X C W (.BinOp a .FloorDiv b pos) (tOp (rI CDivW fun i j => .int (i / j)) ta tb) (mOp opDiv fa fb) := ⟨pe_op op_fdivW ha.pe hb.pe, sv_op ha.sv hb.sv rv_div⟩
theorem dv_mod (ha : DV X C W a ta fa) (hb : DV X C W b tb fb) : DV X C W (.BinOp a .Mod b pos) (tOp (rI (fun _ j => 0 < j) fun i j => .int (i % j)) ta tb) (mOp opMod fa fb) := ⟨pe_op op_mod ha.pe hb.pe, sv_op ha.sv hb.sv rv_mod⟩
theorem dv_pow (ha : DV X C W a ta fa) (hb : DV X C W b tb fb) : DV X C W (.BinOp a .Pow b pos) (tOp (rI CPow fun i j => .int (i ^ j.toNat)) ta tb) (mOp opPow fa fb) := ⟨pe_op op_pow ha.pe hb.pe, sv_op ha.sv hb.sv rv_pow⟩
theorem dv_neg (ha : DV X C W a ta fa) : DV X C W (.UnaryOp .USub a pos) (tUn (rU fun i => .int (-i)) ta) (mUn opNeg fa) := ⟨pe_un un_neg ha.pe, sv_un ha.sv ru_neg'⟩
/-- a comparison by its rule: the operator's, the value's -/
structure CmpD {T : Type} (X : Cx) (C : Ct T) (op : CmpOp) (r : R2) (f : D → D → Option D) : Prop where
  op : OpR X (compareOp op) r
  rv : Rv C r f
  rw : Rw C r f
structure CmpI {T : Type} (X : Cx) (C : Ct T) (op : CmpOp) (r : R2) (f : D → D → Option D) : Prop where
  op : OpR X (compareOp op) r
  rv : Rv C r f
theorem Rv.scal {r : R2} {f : D → D → Option D} (h : Rv C r f) (hn : ∀ a b ds, (a = PyData.list ds ∨ ∃ ks, a = PyData.dict ks) → f a b = none) : Rw C r f := by
  intro F0 H0 L s σ F H x y a b Q g rx ry k
  rcases rx with rx | ⟨p, xs, ds, rfl, rfl, hp, r⟩ | ⟨p, xs, ds, rfl, rfl, hp, r⟩
  · exact h F0 H0 L s σ F H x y a b Q g rx ry k
  · rw [hn _ b ds (.inl rfl)] at k; exact k.elim
  · rw [hn _ b [] (.inr ⟨ds, rfl⟩)] at k; exact k.elim
theorem c_eq {bb : Bool} (q : CurB bb X C W k cls K) : CmpD X C .Eq (rEqD K) opEq := ⟨by rw [← q.hX]; exact op_eqD q.units, by rw [← q.hK]; exact rv_eq, by rw [← q.hK]; exact rw_eq⟩
theorem c_ne {bb : Bool} (q : CurB bb X C W k cls K) : CmpD X C .NotEq (rNeD K) opNe := ⟨by rw [← q.hX]; exact op_neD q.units, by rw [← q.hK]; exact rv_ne, by rw [← q.hK]; exact rw_ne⟩
theorem c_lt : CmpD X C .Lt rLtA opLt := ⟨or_lt, rv_lt, rv_lt.scal fun a b ds h => by rcases h with rfl | ⟨ks, rfl⟩ <;> rfl⟩
theorem c_le : CmpD X C .LtE (rI0 fun i j => .bl (decide (i ≤ j))) opLe := ⟨op_le, rv_le, rv_le.scal fun a b ds h => by rcases h with rfl | ⟨ks, rfl⟩ <;> rfl⟩
theorem c_gt : CmpD X C .Gt (rI0 fun i j => .bl (decide (j < i))) opGt := ⟨op_gt, rv_gt, rv_gt.scal fun a b ds h => by rcases h with rfl | ⟨ks, rfl⟩ <;> rfl⟩
theorem c_ge : CmpD X C .GtE (rI0 fun i j => .bl (decide (j ≤ i))) opGe := ⟨op_ge, rv_ge, rv_ge.scal fun a b ds h => by rcases h with rfl | ⟨ks, rfl⟩ <;> rfl⟩
theorem c_is : CmpI X C .Is rIsA opIs := ⟨or_is, rv_is⟩
theorem c_isnot : CmpI X C .IsNot rIsNotA opIsNot := ⟨or_isnot, rv_isnot⟩
theorem c_in {bb : Bool} (q : CurB bb X C W k cls K) : CmpI X C .In (rInD K) opIn := ⟨by rw [← q.hX]; exact or_in.or (op_din (by have := q.un; omega)), by rw [← q.hK]; exact rv_in⟩
theorem c_notin {bb : Bool} (q : CurB bb X C W k cls K) : CmpI X C .NotIn (rNotInD K) opNotIn := ⟨by rw [← q.hX]; exact or_notin.or (op_dnotin (by have := q.un; omega)), by rw [← q.hK]; exact rv_notin⟩
theorem CmpD.i {op : CmpOp} {r : R2} {f : D → D → Option D} (h : CmpD X C op r f) : CmpI X C op r f := ⟨h.op, h.rv⟩
variable {op op' : CmpOp} {r r' : R2} {f f' : D → D → Option D}
theorem dv_cmp (h : CmpI X C op r f) (ha : DV X C W a ta fa) (hb : DV X C W b tb fb) (hm : behindInMarks op b = false := by rfl) : DV X C W (.Compare a [op] [b] pos) (tOp r ta tb) (mOp f fa fb) := ⟨pe_cmpR h.op ha.pe hb.pe hm, sv_op ha.sv hb.sv h.rv⟩
theorem dt_cmp (h : CmpI X C op r f) (ha : DV X C W a ta fa) (hb : DV X C W b tb fb) (hm : behindInMarks op b = false := by rfl) : DT X C W (.Compare a [op] [b] pos) (tTest (tOp r ta tb)) (mB (mOp f fa fb)) := ⟨pt_cmpR h.op ha.pe hb.pe hm, stt_test (sv_op ha.sv hb.sv h.rv)⟩
theorem dv_cmpP (h : CmpD X C op r f) (i : Nat) (ha : PE X a (tVar i)) (hb : DV X C W b tb fb) (hm : behindInMarks op b = false := by rfl) : DV X C W (.Compare a [op] [b] pos) (tOp r (tVar i) tb) (mOpP f i fb) := ⟨pe_cmpR h.op ha hb.pe hm, sv_opP hb.sv h.rw⟩
theorem dt_cmpP (h : CmpD X C op r f) (i : Nat) (ha : PE X a (tVar i)) (hb : DV X C W b tb fb) (hm : behindInMarks op b = false := by rfl) : DT X C W (.Compare a [op] [b] pos) (tTest (tOp r (tVar i) tb)) (mB (mOpP f i fb)) := ⟨pt_cmpR h.op ha hb.pe hm, stt_test (sv_opP hb.sv h.rw)⟩
theorem dv_chain (h : CmpI X C op r f) (h' : CmpI X C op' r' f') (ha : DV X C W a ta fa) (hb : DV X C W b tb fb) (hc : DV X C W c tc fc) (hm : lastMarks [op, op'] [b, c] = false := by with_unfolding_all rfl) : DV X C W (.Compare a [op, op'] [b, c] pos) (tChain r r' ta tb tc) (mChain f f' fa fb fc) :=
  ⟨pe_chain h.op h'.op ha.pe hb.pe hc.pe hm, sv_chain ha.sv hb.sv hc.sv h.rv h'.rv⟩
theorem dt_chain (h : CmpI X C op r f) (h' : CmpI X C op' r' f') (ha : DV X C W a ta fa) (hb : DV X C W b tb fb) (hc : DV X C W c tc fc) (hm : lastMarks [op, op'] [b, c] = false := by with_unfolding_all rfl) : DT X C W (.Compare a [op, op'] [b, c] pos) (tTest (tChain r r' ta tb tc)) (mB (mChain f f' fa fb fc)) :=
  ⟨pt_chain h.op h'.op ha.pe hb.pe hc.pe hm, stt_test (sv_chain ha.sv hb.sv hc.sv h.rv h'.rv)⟩
-- and, or, not
theorem dt_tru {bb : Bool} (q : CurB bb X C W k cls K) (ha : DV X C W a ta fa) (he : ∀ whole, isTrue a X.env whole = (do let v ← whole; standAt a.pos; holding [v] (truthy v)) := by intro _; rfl) : DT X C W a (tTru K ta) (mTruth fa) := ⟨by rw [← q.hX]; exact pt_truth ha.pe he, by rw [← q.hK]; exact stt_truth ha.sv⟩
theorem dw_and1 (h : DT X C W a t ft) : DW X C W (.BoolOp .And [a] pos) t ft := ⟨pw_and1 h.pe, h.sv⟩
theorem dw_or1 (h : DT X C W a t ft) : DW X C W (.BoolOp .Or [a] pos) t ft := ⟨pw_or1 h.pe, h.sv⟩
theorem dw_and {rest : List Expr} (h : DT X C W a t ft) (hr : DW X C W (.BoolOp .And (b :: rest) pos) u fu) : DW X C W (.BoolOp .And (a :: b :: rest) pos) (tAnd t u) (mAnd ft fu) := ⟨pw_and h.pe hr.pe, stt_and h.sv hr.sv⟩
theorem dw_or {rest : List Expr} (h : DT X C W a t ft) (hr : DW X C W (.BoolOp .Or (b :: rest) pos) u fu) : DW X C W (.BoolOp .Or (a :: b :: rest) pos) (tOr t u) (mOr ft fu) := ⟨pw_or h.pe hr.pe, stt_or h.sv hr.sv⟩
theorem dt_w (h : DW X C W a t ft) : DT X C W a t ft := ⟨h.pe.pt, h.sv⟩
theorem dt_not (h : DT X C W a t ft) : DT X C W (.UnaryOp .Not a pos) (tNot t) (mNot ft) := ⟨pt_not h.pe, stt_not h.sv⟩
theorem dv_one {o : BoolOp} (h : DV X C W a ta fa) : DV X C W (.BoolOp o [a] pos) ta fa := ⟨pe_one h.pe, h.sv⟩
theorem dv_and {rest : List Expr} (h : DV X C W a ta fa) (hr : DV X C W (.BoolOp .And (b :: rest) pos) tb fb) : DV X C W (.BoolOp .And (a :: b :: rest) pos) (tAndV ta tb) (mAndV fa fb) := ⟨pe_and h.pe hr.pe, sv_andV h.sv hr.sv⟩
theorem dv_or {rest : List Expr} (h : DV X C W a ta fa) (hr : DV X C W (.BoolOp .Or (b :: rest) pos) tb fb) : DV X C W (.BoolOp .Or (a :: b :: rest) pos) (tOrV ta tb) (mOrV fa fb) := ⟨pe_or h.pe hr.pe, sv_orV h.sv hr.sv⟩
theorem dv_not (h : DV X C W a ta fa) : DV X C W (.UnaryOp .Not a pos) (tNotV ta) (mOfB (mNot (mB fa))) := ⟨pe_not h.pe, sv_notV h.sv⟩
theorem dv_if (hc : DT X C W c t ft) (ha : DV X C W a ta fa) (hb : DV X C W b tb fb) : DV X C W (.IfExp c a b pos) (tIf t ta tb) (mIf ft fa fb) := ⟨pe_ifExp hc.pe ha.pe hb.pe, sv_ifE hc.sv ha.sv hb.sv⟩
-- displays, arguments
variable {tr : TA} {fr : M T (List D)}
theorem da_nil : DA X C W [] tNil (mRet []) := ⟨pa_nil, sa_nil⟩
theorem da_cons (ha : DV X C W e ta fa) (hr : DA X C W es tr fr) (hs : starEach (e :: es) X.env = (false, eval e X.env) :: starEach es X.env := by rfl) : DA X C W (e :: es) (tCons ta tr) (mCons fa fr) := ⟨pa_cons ha.pe hr.pe hs, sa_cons ha.sv hr.sv⟩
theorem dv_tup {x1 : Nat} (h : DA X C W es tr fr) : DV X C W (.Tuple es x1 pos) (tTup tr) (mTup fr) := ⟨pe_tup h.pe, sv_tup h.sv⟩
theorem de_lst (h : DA X C W es tr fr) : DE X C W (.List es pos) (tLst tr) (mLst fr) := ⟨pe_lst h.pe, se_lst h.sv⟩
theorem dv_frz {f : M T Slot} (h : DE X C W a ta f) : DV X C W a ta (mFrz f) := ⟨h.pe, sv_frz h.sv⟩
theorem de_fz (h : DV X C W a ta fa) : DE X C W a ta (mFz fa) := ⟨h.pe, se_fz h.sv⟩
theorem de_if {f f' : M T Slot} (hc : DT X C W c t ft) (ha : DE X C W a ta f) (hb : DE X C W b tb f') : DE X C W (.IfExp c a b pos) (tIf t ta tb) (mIf ft f f') := ⟨pe_ifExp hc.pe ha.pe hb.pe, se_ifE hc.sv ha.sv hb.sv⟩
theorem das_nil : DAs X C W [] tNil mSNil := ⟨pa_nil, sas_nil⟩
theorem das_cons {f : M T Slot} {fr : M T (List Slot)} (ha : DE X C W e ta f) (hr : DAs X C W es tr fr) (hs : starEach (e :: es) X.env = (false, eval e X.env) :: starEach es X.env := by rfl) : DAs X C W (e :: es) (tCons ta tr) (mSCons f fr) := ⟨pa_cons ha.pe hr.pe hs, sas_cons ha.sv hr.sv⟩
-- built-ins
variable {p : Pos}
theorem dv_len {bb : Bool} (q : CurB bb X C W k cls K) (hm : X.mg "len" = none) (ha : DV X C W a ta fa) (hg : Gl X "len" := by rfl) (he : starEach [a] X.env = (false, eval a X.env) :: starEach [] X.env := by rfl) : DV X C W (.Call (.Name "len" p) [a] [] pos) (tCB (rLenA K) (tCons ta tNil)) (mUn opLen fa) :=
  ⟨by rw [← q.hX]; exact pe_callB cr_len hg hm PySem.boot_len (pa_cons ha.pe pa_nil he) (by decide) (by decide) he (by rfl), by rw [← q.hK]; exact sv_cb1 ha.sv rw_len.ru⟩
theorem dv_lenP {bb : Bool} (q : CurB bb X C W k cls K) (hm : X.mg "len" = none) (i : Nat) (ha : PE X a (tVar i)) (hg : Gl X "len" := by rfl) (he : starEach [a] X.env = (false, eval a X.env) :: starEach [] X.env := by rfl) : DV X C W (.Call (.Name "len" p) [a] [] pos) (tCB (rLenA K) (tCons (tVar i) tNil)) (mUnP opLen i) :=
  ⟨by rw [← q.hX]; exact pe_callB cr_len hg hm PySem.boot_len (pa_cons ha pa_nil he) (by decide) (by decide) he (by rfl), by rw [← q.hK]; exact sv_cb1P rw_len⟩
theorem dv_all (q : Cur X C W k cls K) (hm : X.mg "all" = none) (ha : DV X C W a ta fa) (hg : Gl X "all" := by rfl) (he : starEach [a] X.env = (false, eval a X.env) :: starEach [] X.env := by rfl) : DV X C W (.Call (.Name "all" p) [a] [] pos) (tCB (rAll K) (tCons ta tNil)) (mUn opAll fa) :=
  ⟨by rw [← q.hX]; exact pe_callB (cr_all q.calm) hg hm PyProof.Rows.boot_all (pa_cons ha.pe pa_nil he) (by decide) (by decide) he (by rfl), by rw [← q.hK]; exact sv_cb1 ha.sv ru_all⟩
theorem dv_any (q : Cur X C W k cls K) (hm : X.mg "any" = none) (ha : DV X C W a ta fa) (hg : Gl X "any" := by rfl) (he : starEach [a] X.env = (false, eval a X.env) :: starEach [] X.env := by rfl) : DV X C W (.Call (.Name "any" p) [a] [] pos) (tCB (rAny K) (tCons ta tNil)) (mUn opAny fa) :=
  ⟨by rw [← q.hX]; exact pe_callB (cr_any q.calm) hg hm PyProof.Rows.boot_any (pa_cons ha.pe pa_nil he) (by decide) (by decide) he (by rfl), by rw [← q.hK]; exact sv_cb1 ha.sv ru_any⟩
theorem dv_sum (q : Cur X C W k cls K) (hm : X.mg "sum" = none) (ha : DV X C W a ta fa) (hg : Gl X "sum" := by rfl) (he : starEach [a] X.env = (false, eval a X.env) :: starEach [] X.env := by rfl) : DV X C W (.Call (.Name "sum" p) [a] [] pos) (tCB (rSum K) (tCons ta tNil)) (mUn opSum fa) :=
  ⟨by rw [← q.hX]; exact pe_callB (cr_sum q.calm) hg hm PyProof.Rows.boot_sum (pa_cons ha.pe pa_nil he) (by decide) (by decide) he (by rfl), by rw [← q.hK]; exact sv_cb1 ha.sv ru_sum⟩
theorem dv_abs (hm : X.mg "abs" = none) (ha : DV X C W a ta fa) (hg : Gl X "abs" := by rfl) (he : starEach [a] X.env = (false, eval a X.env) :: starEach [] X.env := by rfl) : DV X C W (.Call (.Name "abs" p) [a] [] pos) (tCB rAbs (tCons ta tNil)) (mUn opAbs fa) :=
  ⟨pe_callB call_abs hg hm PyProof.Rows.boot_abs (pa_cons ha.pe pa_nil he) (by decide) (by decide) he (by rfl), sv_cb1 ha.sv ru_abs⟩
theorem dv_tuple {bb : Bool} (q : CurB bb X C W k cls K) (hm : X.mg "tuple" = none) (ha : DV X C W a ta fa) (hg : Gl X "tuple" := by rfl) (he : starEach [a] X.env = (false, eval a X.env) :: starEach [] X.env := by rfl) : DV X C W (.Call (.Name "tuple" p) [a] [] pos) (tCB (rTupOf K) (tCons ta tNil)) (mUn opTuple fa) :=
  ⟨by rw [← q.hX]; exact pe_callTy call_tuple_of hg hm PyProof.Rows.boot_tuple (pa_cons ha.pe pa_nil he) (by decide) (by decide) he (by rfl), by rw [← q.hK]; exact sv_cb1 ha.sv rw_tuple.ru⟩
theorem dv_min2 (q : Cur X C W k cls K) (hm : X.mg "min" = none) (ha : DV X C W a ta fa) (hb : DV X C W b tb fb) (hg : Gl X "min" := by rfl) (he : starEach [a, b] X.env = (false, eval a X.env) :: starEach [b] X.env := by rfl) (he2 : starEach [b] X.env = (false, eval b X.env) :: starEach [] X.env := by rfl) (hpl : (backTo pos (starEach [b] X.env)).any (·.1) = false := by rfl) :
    DV X C W (.Call (.Name "min" p) [a, b] [] pos) (tCB rMin2 (tCons ta (tCons tb tNil))) (mOp opMin2 fa fb) :=
  ⟨pe_callB (call_min2 q.calm) hg hm PyProof.Rows.boot_min (pa_cons ha.pe (pa_cons hb.pe pa_nil he2) he) (by decide) (by decide) he hpl, sv_cb2 ha.sv hb.sv rv_min2⟩
/-- isinstance(e, T) -/
theorem dv_isi {bb : Bool} (q : CurB bb X C W k cls K) (ty : Ty) {n : Str} {p2 : Pos} (hm : X.mg "isinstance" = none) (hm2 : X.mg n = none) (hb : bootBuiltins n = some (.type ty.nm)) (ha : DV X C W a ta fa) (hg : Gl X "isinstance" := by rfl) (hg2 : Gl X n := by rfl)
    (hn : n ≠ "__name__" := by decide) (hdb : (n == ("__debug__" : Str)) = false := by decide) (he : starEach [a, .Name n p2] X.env = (false, eval a X.env) :: starEach [.Name n p2] X.env := by rfl) (he2 : starEach [.Name n p2] X.env = (false, eval (.Name n p2) X.env) :: starEach [] X.env := by rfl) (hpl : (backTo pos (starEach [.Name n p2] X.env)).any (·.1) = false := by rfl) :
    DV X C W (.Call (.Name "isinstance" p) [a, .Name n p2] [] pos) (tCB (rIsi K) (tCons ta (tCons (tC (.ty ty.nm)) tNil))) (mIsi ty fa) :=
  ⟨by rw [← q.hX]; exact pe_callB call_isi hg hm PyProof.Rows.boot_isinstance (pa_cons ha.pe (pa_cons (pe_bltn hg2 hm2 hb rfl hn hdb) pa_nil he2) he) (by decide) (by decide) he hpl, by rw [← q.hK]; exact sv_isi ty rfl ha.sv⟩
-- subscripts, slices
theorem dv_ix {bb : Bool} (q : CurB bb X C W k cls K) (ha : DV X C W a ta fa) (hb : DV X C W b tb fb) (hs : PlainIx b := by exact fun _ _ => rfl) : DV X C W (.Subscript a b pos) (tOp (rIxA K) ta tb) (mOp opIx fa fb) := ⟨by rw [← q.hX]; exact pe_ix (ix_seq.or (ix_dict (by have := q.un; omega))) ha.pe hb.pe hs, by rw [← q.hK]; exact sv_op ha.sv hb.sv rv_ix⟩
theorem dv_ixP {bb : Bool} (q : CurB bb X C W k cls K) (i : Nat) (ha : PE X a (tVar i)) (hb : DV X C W b tb fb) (hs : PlainIx b := by exact fun _ _ => rfl) : DV X C W (.Subscript a b pos) (tOp (rIxA K) (tVar i) tb) (mOpP opIx i fb) := ⟨by rw [← q.hX]; exact pe_ix (ix_seq.or (ix_dict (by have := q.un; omega))) ha hb.pe hs, by rw [← q.hK]; exact sv_opP hb.sv rw_ix⟩
theorem do_none : DO X C W none tNoPart (mRet none) := ⟨po_none, so_none⟩
theorem do_some (ha : DV X C W a ta fa) : DO X C W (some a) (tPart ta) (mSome fa) := ⟨po_some ha.pe, so_some ha.sv⟩
theorem dv_sl {bb : Bool} (q : CurB bb X C W k cls K) {lo hi : Option Expr} {tl th : TO} {fl fh : M T (Option Int)} {p2 : Pos} (ha : DV X C W a ta fa) (hl : DO X C W lo tl fl) (hh : DO X C W hi th fh) : DV X C W (.Subscript a (.Slice lo hi none p2) pos) (tSl (rSlA K) ta tl th) (mSl fa fl fh) :=
  ⟨by rw [← q.hX]; exact pe_slice sl_any ha.pe hl.pe hh.pe, by rw [← q.hK]; exact sv_sl ha.sv hl.sv hh.sv⟩
-- append
theorem dv_append {bb : Bool} (q : CurB bb X C W k cls K) (i : Nat) {o : Expr} {apos cpos : Pos} (ho : PE X o (tVar i)) (ha : DV X C W a ta fa)
    (hbase : attributeBase o "append" X.env (eval o X.env) = eval o X.env := by rfl)
    (hfew : ((backTo cpos (starEach [a] X.env)).all (fun x => !x.1) && (backToKw cpos (keywordEach [] X.env)).all (fun x => x.1.isSome)
      && decide ([a].length + ([] : List Keyword).length + (if ([] : List Keyword).isEmpty then 0 else 1) < 30)) = true := by rfl)
    (hline : (apos.endLine == cpos.line) = true := by rfl) (hs : starEach [a] X.env = (false, eval a X.env) :: starEach [] X.env := by rfl) (hplain : (backTo cpos (starEach [] X.env)).any (·.1) = false := by rfl) :
    DV X C W (.Call (.Attribute o "append" apos) [a] [] cpos) (tBM K "list" rAppend (tVar i) (tCons ta tNil)) (mAppend i fa) :=
  ⟨by rw [← q.hX]; exact pe_bm PySem.F.plainAttrs_list PySem.F.slot_list_append PySem.F.type_list_append mt_append ho (pa_cons ha.pe pa_nil hs) hbase hfew hline hs hplain, by rw [← q.hK]; exact sv_append ha.sv⟩
end

/-! ### calls of defs, raises -/
/-- a def that stands in the module's names and keeps its promise -/
structure DefP (P : Program) (w : World) (K : PySem.W.Frag) (mg : Str → Option Value) (base : Heap) (cls : Nat → Addr) (x : Str) (k : Nat) (ps : List Str) (g : List D → Rp) : Prop where
  ok : ∃ (f : Addr) (fd : FuncData), FnOk P w K mg base (L2.CX P w) k f fd ps (spP K cls g) ∧ mg x = some (.ref f) ∧ PySem.W.keepIn K (.ref f) = true ∧ Binds K fd ps []
/-- an own exception class without a body, over ValueError -/
structure ExcP (K : PySem.W.Frag) (mg : Str → Option Value) (x : Str) (c : Addr) : Prop where
  g : mg x = some (.ref c)
  ex : PySem.W.excIn K c [.type "ValueError", .type "Exception", .type "BaseException", .type "object"] "ValueError.__new__" = true
  kp : PySem.W.keepIn K (.ref c) = true
  sub : PySem.W.subIn K (.ref c) (.type "BaseException") = some true
  ty : PySem.W.typeIn K (.ref c) = some (.type "type")
section
variable {T : Type} {X : Cx} {C : Ct T} {W : WX} {k : Nat} {cls : Nat → Addr} {K : PySem.W.Frag} {a e : Expr} {es : List Expr} {pos p : Pos} {ta : TE} {fa : M T D} {tr : TA} {fr : M T (List D)}
theorem dv_call {k' : Nat} {x : Str} {ps : List Str} {g : List D → Rp} (q : Cur X C W k cls K) (F : DefP X.prog X.w X.K X.mg X.base cls x k' ps g) (hk : k' ≤ k) (ha : DA X C W (e :: es) tr fr) (hg : Gl X x := by rfl)
    (hdb : (x == ("__debug__" : Str)) = false := by decide) (he : starEach (e :: es) X.env = (false, eval e X.env) :: starEach es X.env := by rfl) (hpl : (backTo pos (starEach es X.env)).any (·.1) = false := by rfl) :
    DV X C W (.Call (.Name x p) (e :: es) [] pos) (tCallS (spP K cls g) (WE W) tr) (mCall g fr) := by
  obtain ⟨f, fd, F1, m, kp, b⟩ := F.ok
  refine ⟨?_, by rw [← q.hK, ← q.hc]; exact sv_callP ha.sv⟩
  rw [← q.hX]
  exact pe_callS F1 (q.hr.mono hk) hg m kp b (fun σ => passAt q.tk σ) ha.pe hdb he hpl
theorem pmk_own0 {x : Str} {c : Addr} (T : ExcP X.K X.mg x c) (hg : Gl X x) (hdb : (x == ("__debug__" : Str)) = false := by decide) : PMk X (.Call (.Name x p) [] [] pos) (fun _ H Q => Q (.ref c) none H) := by
  intro pins s σ H Q I h
  refine wpAny_Call_Name_kw (ld_glob I hg T.g ?_ hdb)
  refine PySem.W.callWith_K0 I.kIn T.kp ?_
  show wpAny _ _ (PySem.call (.ref c) []) _ _ _
  obtain ⟨bm, N, nm, qn, bs, hdct, sn, sub, ab, col, dd, k0, k1, k2, k3, k5, mN, hC, hN, hni, TT⟩ := exc_obj I.kIn T.ex
  refine wpAny_call_exc_subT PySem.F.excBase_ValueError TT hC hN hni (fun h' e hm => ?_) (Nat.zero_le _)
  exact mk_of I hm (raises_own T.sub T.ty) h (I.hok.gone hm.new)
def mRaise {T : Type} (c : Nat) : M T Out := fun s => .exc c s
theorem ds_raise {x : Str} {pos' : Pos} (n : Nat) (q : Cur X C W k cls K) (E : ExcP X.K X.mg x (cls n)) (hg : Gl X x := by rfl) (hdb : (x == ("__debug__" : Str)) = false := by decide) : DS X C W (.Raise (some (.Call (.Name x p) [] [] pos)) none pos') (fun _ σ H => W (.ref (cls n)) none σ H) (mRaise n) :=
  ⟨ps_raise q.calm q.tk (pmk_own0 E hg hdb), fun F0 H0 L s σ F H D g h => by rw [← q.hc]; exact h σ F H g (Same.refl F)⟩
end

/-! ### targets, iterables, comprehensions -/
section
variable {T : Type} {X : Cx} {C : Ct T} {W : WX} {k : Nat} {cls : Nat → Addr} {K : PySem.W.Frag} {a b e : Expr} {es : List Expr} {pos p : Pos} {ta tb te : TE} {fa fb fe : M T D} {tt : TT} {ft : M T Bool} {tr : TA} {fr : M T (List D)}
theorem dg_name (i : Nat) {x : Str} (q : Cur X C W k cls K) (hi : X.N[i]? = some x := by rfl) (hx : Loc X.env.scope x := by first | exact Or.inl rfl | exact Or.inr rfl) (hf : X.fn x = true ∨ X.env.scope.names.lookup x = some .local := by first | exact .inl rfl | exact .inr rfl) : DG X C (.Name x pos) (gName i) [i] (pName i) := ⟨pg_name q.nd hi hx hf, sg_name i⟩
theorem dgs_nil : DGs X C [] gNil [] pNil := ⟨pgs_nil, sgs_nil⟩
theorem dgs_cons {g : TG} {gs : TGs} {is js : List Nat} {f : D → M T Unit} {fs : List D → M T Unit} (h : DG X C e g is f) (hr : DGs X C es gs js fs) (hs : (assignEach (e :: es) X.env).map (·.2) = assign e X.env :: (assignEach es X.env).map (·.2) := by rfl) : DGs X C (e :: es) (gCons g gs) (is ++ js) (pCons f fs) := ⟨pgs_cons h.pe hr.pe hs, sgs_cons h.sv hr.sv⟩
theorem dg_tup (n : Nat) {kk : Nat} {gs : TGs} {is : List Nat} {fs : List D → M T Unit} (q : Cur X C W k cls K) (h : DGs X C es gs is fs) (hn : (assignEach es X.env).length = n := by rfl) (hst : (assignEach es X.env).findIdx? (·.1) = none := by rfl) : DG X C (.Tuple es kk pos) (gTL K n gs) is (pTup n fs) :=
  ⟨by rw [← q.hX]; exact pg_tl q.calm h.pe hn hst, by rw [← q.hK]; exact sg_tup h.sv⟩
theorem di_seq {tg : Expr} {bb : Bool} (q : CurB bb X C W k cls K) (ha : DV X C W a ta fa) : DI X C W tg a (iSeq K ta) (mIter fa) := ⟨by rw [← q.hX]; exact pi_seq ha.pe, by rw [← q.hK]; exact si_seq ha.sv⟩
theorem di_range1 {tg : Expr} (hm : X.mg "range" = none) (ha : DV X C W a ta fa) (hg : Gl X "range" := by rfl) (hs : starEach [a] X.env = [(false, eval a X.env)] := by rfl) : DI X C W tg (.Call (.Name "range" p) [a] [] pos) (iRng1 (tCons ta tNil)) (mRange1 fa) := ⟨pi_range1 hg hm (pa_cons ha.pe pa_nil hs) hs, si_range1 ha.sv⟩
theorem di_range2 {tg : Expr} (hm : X.mg "range" = none) (ha : DV X C W a ta fa) (hb : DV X C W b tb fb) (hg : Gl X "range" := by rfl) (hs : starEach [a, b] X.env = [(false, eval a X.env), (false, eval b X.env)] := by rfl) (hs2 : starEach [b] X.env = [(false, eval b X.env)] := by rfl) :
    DI X C W tg (.Call (.Name "range" p) [a, b] [] pos) (iRng2 (tCons ta (tCons tb tNil))) (mRange2 fa fb) := ⟨pi_range2 hg hm (pa_cons ha.pe (pa_cons hb.pe pa_nil hs2) (by rw [hs, hs2])) hs hs2, si_range2 ha.sv hb.sv⟩
theorem di_zip {elts : List Expr} {kk : Nat} {tpos : Pos} (q : Cur X C W k cls K) (hm : X.mg "zip" = none) (ha : DV X C W a ta fa) (hb : DV X C W b tb fb) (hg : Gl X "zip" := by rfl) (hs : starEach [a, b] X.env = (false, eval a X.env) :: starEach [b] X.env := by rfl) (hs2 : starEach [b] X.env = (false, eval b X.env) :: starEach [] X.env := by rfl) (hpl : (backTo pos (starEach [b] X.env)).any (·.1) = false := by rfl) :
    DI X C W (.Tuple elts kk tpos) (.Call (.Name "zip" p) [a, b] [] pos) (iZipA K (tCons ta (tCons tb tNil))) (mZip fa fb) := ⟨by rw [← q.hX]; exact pi_zipA hg hm (pa_cons ha.pe (pa_cons hb.pe pa_nil hs2) hs) hs hpl, by rw [← q.hK]; exact si_zip ha.sv hb.sv⟩
theorem dts_nil : DTs X C W [] tYes (mRet true) := ⟨pts_nil, fun F0 H0 L s σ F H Q g h => po_ret h g⟩
theorem dts_one (h : DT X C W a tt ft) : DTs X C W [a] tt ft := ⟨pts_one h.pe, h.sv⟩
/-- [e for tg in it if ..] -/
theorem de_lc {elt tg iter : Expr} {ifs : List Expr} {scope : Scope} {own : List (Str × Nat)} {wi : TI} {fi : M T (List D)} {g : TG} {is : List Nat} {f : D → M T Unit} (q : Cur X C W k cls K) (vs : List Nat) (hv : own.map (·.2) = vs) (his : ∀ i ∈ is, i ∈ vs) (hi : DI X C W tg iter wi fi) (ok : BlkOk X.N X.env.scope scope own)
    (hg : ∀ (s : Shared) (H : Hp) (Ca : Addr) (cl : List (Str × Addr)) (fp : List Addr), Cur (X.blk s H scope (compEnvC scope cl Ca X.env) fp) C W0 k cls K → DG (X.blk s H scope (compEnvC scope cl Ca X.env) fp) C tg g is f)
    (ht : ∀ (s : Shared) (H : Hp) (Ca : Addr) (cl : List (Str × Addr)) (fp : List Addr), Cur (X.blk s H scope (compEnvC scope cl Ca X.env) fp) C W0 k cls K → DTs (X.blk s H scope (compEnvC scope cl Ca X.env) fp) C W0 ifs tt ft)
    (he : ∀ (s : Shared) (H : Hp) (Ca : Addr) (cl : List (Str × Addr)) (fp : List Addr), Cur (X.blk s H scope (compEnvC scope cl Ca X.env) fp) C W0 k cls K → DV (X.blk s H scope (compEnvC scope cl Ca X.env) fp) C W0 elt te fe) (hs : ∀ x, foldedSetIterable iter X.env x = pure x := by intro _; rfl) :
    DE X C W (.ListComp elt [⟨tg, iter, ifs, 0⟩] scope pos) (tLc wi g tt te vs) (mLc vs fi f ft fe) := by
  subst hv
  refine ⟨pe_lc q.calm q.nd hi.pe ok (fun s H Ca cl fp => (hg s H Ca cl fp (q.blk _ _ _ _ _)).pe) (fun s H Ca cl fp => (ht s H Ca cl fp (q.blk _ _ _ _ _)).pe) (fun s H Ca cl fp => (he s H Ca cl fp (q.blk _ _ _ _ _)).pe) hs, ?_⟩
  exact se_lc hi.sv (hg ({} : Shared) (fun _ => none) 0 [] [] (q.blk _ _ _ _ _)).sv his (ht ({} : Shared) (fun _ => none) 0 [] [] (q.blk _ _ _ _ _)).sv (he ({} : Shared) (fun _ => none) 0 [] [] (q.blk _ _ _ _ _)).sv
/-- x = [e for tg in it if ..] where the name is a plain local -/
theorem ds_setLc {elt tg iter : Expr} {ifs : List Expr} {scope : Scope} {own : List (Str × Nat)} {wi : TI} {fi : M T (List D)} {g : TG} {is : List Nat} {f : D → M T Unit} {y : Str} {py spos : Pos} (i : Nat) (q : Cur X C W k cls K) (vs : List Nat) (hv : own.map (·.2) = vs) (his : ∀ i ∈ is, i ∈ vs) (hi : DI X C W tg iter wi fi) (ok : BlkOk X.N X.env.scope scope own)
    (hg : ∀ (s : Shared) (H : Hp) (Ca : Addr) (cl : List (Str × Addr)) (fp : List Addr), Cur (X.blk s H scope (compEnvC scope cl Ca X.env) fp) C W0 k cls K → DG (X.blk s H scope (compEnvC scope cl Ca X.env) fp) C tg g is f)
    (ht : ∀ (s : Shared) (H : Hp) (Ca : Addr) (cl : List (Str × Addr)) (fp : List Addr), Cur (X.blk s H scope (compEnvC scope cl Ca X.env) fp) C W0 k cls K → DTs (X.blk s H scope (compEnvC scope cl Ca X.env) fp) C W0 ifs tt ft)
    (he : ∀ (s : Shared) (H : Hp) (Ca : Addr) (cl : List (Str × Addr)) (fp : List Addr), Cur (X.blk s H scope (compEnvC scope cl Ca X.env) fp) C W0 k cls K → DV (X.blk s H scope (compEnvC scope cl Ca X.env) fp) C W0 elt te fe) (hy : X.N[i]? = some y := by rfl) (hyl : X.env.scope.names.lookup y = some .local := by rfl)
    (hsw : swapsWith (.ListComp elt [⟨tg, iter, ifs, 0⟩] scope pos) (some (.Name y py)) spos.line X.env = pure true := by exact sw_true rfl rfl rfl (by decide +kernel)) (hs : ∀ x, foldedSetIterable iter X.env x = pure x := by intro _; rfl) :
    DS X C W (.Assign [.Name y py] (.ListComp elt [⟨tg, iter, ifs, 0⟩] scope pos) spos) (tAsg (tLc wi g tt te vs) (gName i)) (mSet i (mLc vs fi f ft fe)) := by
  have d := de_lc (pos := pos) q vs hv his hi ok hg ht he hs
  subst hv
  exact ⟨ps_setLc q.calm q.nd hy hyl hsw hi.pe ok (fun s H Ca cl fp => (hg s H Ca cl fp (q.blk _ _ _ _ _)).pe) (fun s H Ca cl fp => (ht s H Ca cl fp (q.blk _ _ _ _ _)).pe) (fun s H Ca cl fp => (he s H Ca cl fp (q.blk _ _ _ _ _)).pe) hs, sb_set i d.sv⟩
end

/-! ### statements -/
section
variable {T : Type} {X : Cx} {C : Ct T} {W : WX} {k : Nat} {cls : Nat → Addr} {K : PySem.W.Frag} {a b e c : Expr} {es : List Expr} {pos p : Pos} {ta tb te : TE} {fa fb fe : M T D} {tc : TT} {fc : M T Bool} {tr : TA} {fr : M T (List D)} {st : Stmt} {sts body orelse : List Stmt} {t u : TS} {f f' : M T Out}
theorem dss_nil : DSs X C W [] tNext (mRet .nx) := ⟨pss_nil, sb_next⟩
theorem dss_one (h : DS X C W st t f) : DSs X C W [st] t f := ⟨pss_one h.pe, h.sv⟩
theorem dss_cons (h : DS X C W st t f) (hr : DSs X C W sts u f') : DSs X C W (st :: sts) (tSeq t u) (mSeq f f') := ⟨pss_cons h.pe hr.pe, sb_seq h.sv hr.sv⟩
theorem ds_pass : DS X C W (.Pass pos) tNext (mRet .nx) := ⟨ps_pass, sb_next⟩
theorem ds_break : DS X C W (.Break pos) tBreak (mRet .bk) := ⟨ps_break, sb_break⟩
theorem ds_cont : DS X C W (.Continue pos) tCont (mRet .ct) := ⟨ps_continue, sb_cont⟩
theorem ds_ret (h : DV X C W e te fe) : DS X C W (.Return (some e) pos) (tRet te) (mReturn fe) := ⟨ps_ret h.pe, sb_ret h.sv⟩
theorem ds_retN : DS X C W (.Return none pos) tRetN (mRet (.ret .none)) := ⟨ps_retN, sb_retN⟩
theorem ds_expr (h : DV X C W e te fe) (hs : swapsWith e none pos.line X.env = pure false := by rfl) : DS X C W (.Expr e pos) (tDrop te) (mExpr fe) := ⟨ps_expr h.pe hs, sb_expr h.sv⟩
theorem ds_if (hc : DT X C W c tc fc) (ha : DSs X C W body t f) (hb : DSs X C W orelse u f') : DS X C W (.If c body orelse pos) (tIfS tc t u) (mIf fc f f') := ⟨ps_if hc.pe ha.pe hb.pe, sb_if hc.sv ha.sv hb.sv⟩
theorem ds_set {fs : M T Slot} {x : Str} {pos' : Pos} (i : Nat) {bb : Bool} (q : CurB bb X C W k cls K) (h : DE X C W e te fs) (hi : X.N[i]? = some x := by rfl) (hx : Loc X.env.scope x := by first | exact Or.inl rfl | exact Or.inr rfl) (hs : swapsWith e (some (.Name x pos')) pos.line X.env = pure false := by rfl)
    (hf : X.fn x = true ∨ X.env.scope.names.lookup x = some .local := by first | exact .inl rfl | exact .inr rfl) : DS X C W (.Assign [.Name x pos'] e pos) (tAsg te (gName i)) (mSet i fs) := ⟨ps_set q.nd hi hx h.pe hs hf, sb_set i h.sv⟩
/-- tuple targets, a value -/
theorem ds_setG {tg : Expr} {g : TG} {is : List Nat} {fg : D → M T Unit} (h : DV X C W e te fe) (hg : DG X C tg g is fg) (hs : swapsWithSole [tg] e pos.line X.env = pure false := by rfl) (hw : swappedStores [tg] e X.env = pure none := by rfl)
    (h1 : (assignEach [tg] X.env).map (·.2) = [assign tg X.env] := by rfl) : DS X C W (.Assign [tg] e pos) (tAsg te g) (mSetG fg fe) := ⟨ps_asg h.pe hg.pe hs hw h1, sb_setG h.sv hg.sv⟩
variable {tas : TA} {fas : M T (List Slot)}
theorem ds_par {x y : Str} {px py pt : Pos} {kt k2 : Nat} {pt2 : Pos} (i j : Nat) (q : Cur X C W k cls K) (ha : DAs X C W [a, b] tas fas) (hij : i ≠ j := by decide) (hi : X.N[i]? = some x := by rfl) (hj : X.N[j]? = some y := by rfl)
    (hx : X.env.scope.names.lookup x = some .local := by rfl) (hy : X.env.scope.names.lookup y = some .local := by rfl)
    (hw : swappedStores [.Tuple [.Name x px, .Name y py] kt pt] (.Tuple [a, b] k2 pt2) X.env = pure (some [x, y]) := by rfl)
    (hs : swapsWithSole [.Tuple [.Name x px, .Name y py] kt pt] (.Tuple [a, b] k2 pt2) pos.line X.env = pure false := by rfl) :
    DS X C W (.Assign [.Tuple [.Name x px, .Name y py] kt pt] (.Tuple [a, b] k2 pt2) pos) (tPar i j tas) (mSets fas [i, j]) := ⟨ps_par q.calm q.nd hi hj hij hx hy ha.pe hw hs, sb_par ha.sv⟩
theorem ds_par3 {x y z : Str} {px py pz pt : Pos} {kt k2 : Nat} {pt2 : Pos} (i j l : Nat) (q : Cur X C W k cls K) (ha : DAs X C W [a, b, c] tas fas) (hij : i ≠ j := by decide) (hil : i ≠ l := by decide) (hjl : j ≠ l := by decide) (hi : X.N[i]? = some x := by rfl) (hj : X.N[j]? = some y := by rfl) (hl : X.N[l]? = some z := by rfl)
    (hx : X.env.scope.names.lookup x = some .local := by rfl) (hy : X.env.scope.names.lookup y = some .local := by rfl) (hz : X.env.scope.names.lookup z = some .local := by rfl)
    (hw : swappedStores [.Tuple [.Name x px, .Name y py, .Name z pz] kt pt] (.Tuple [a, b, c] k2 pt2) X.env = pure (some [x, y, z]) := by rfl)
    (hs : swapsWithSole [.Tuple [.Name x px, .Name y py, .Name z pz] kt pt] (.Tuple [a, b, c] k2 pt2) pos.line X.env = pure false := by rfl) :
    DS X C W (.Assign [.Tuple [.Name x px, .Name y py, .Name z pz] kt pt] (.Tuple [a, b, c] k2 pt2) pos) (tPar3 i j l tas) (mSets fas [i, j, l]) := ⟨ps_par3 q.calm q.nd hi hj hl hij hil hjl hx hy hz ha.pe hw hs, sb_par3 ha.sv⟩
/-- names of which one is a cell: the tuple is made -/
theorem ds_tupset {tgs : List Expr} {k1 k2 : Nat} {pt pt2 : Pos} {is : List Nat} (q : Cur X C W k cls K) (n : Nat) (hn : n = is.length) (hg : PGs X tgs (gNames is)) (ha : DAs X C W es tas fas) (hl : (assignEach tgs X.env).length = n := by rfl) (hst : (assignEach tgs X.env).findIdx? (·.1) = none := by rfl)
    (hs : swapsWithSole [.Tuple tgs k1 pt] (.Tuple es k2 pt2) pos.line X.env = pure false := by rfl) (hw : swappedStores [.Tuple tgs k1 pt] (.Tuple es k2 pt2) X.env = pure none := by rfl)
    (h1 : (assignEach [.Tuple tgs k1 pt] X.env).map (·.2) = [assign (.Tuple tgs k1 pt) X.env] := by rfl) : DS X C W (.Assign [.Tuple tgs k1 pt] (.Tuple es k2 pt2) pos) (tAsg (tTup tas) (gTup K n (gNames is))) (mSets fas is) :=
  ⟨by rw [← q.hX]; exact ps_asg (pe_tup ha.pe) (pg_tup q.calm hg hl hst) hs hw h1, by rw [← q.hK]; exact sb_tupset hn ha.sv⟩
theorem pgn_nil : PGs X [] (gNames []) := pgs_nil
theorem pgn_cons (i : Nat) {x : Str} {is : List Nat} (hN : X.N.Nodup) (hr : PGs X es (gNames is)) (hi : X.N[i]? = some x := by rfl) (hx : Loc X.env.scope x := by first | exact Or.inl rfl | exact Or.inr rfl) (hf : X.fn x = true ∨ X.env.scope.names.lookup x = some .local := by first | exact .inl rfl | exact .inr rfl)
    (hs : (assignEach (.Name x pos :: es) X.env).map (·.2) = assign (.Name x pos) X.env :: (assignEach es X.env).map (·.2) := by rfl) : PGs X (.Name x pos :: es) (gNames (i :: is)) := pgs_cons (pg_name hN hi hx hf) hr hs
theorem ds_for {tg iter : Expr} {wi : TI} {fi : M T (List D)} {g : TG} {is : List Nat} {fg : D → M T Unit} (q : Cur X C W k cls K) (hp : PassesOwn (model X.prog X.w) X.A X.env X.xe) (hi : DI X C W tg iter wi fi) (hg : DG X C tg g is fg) (hb : DSs X C W body t f)
    (hs : ∀ x, foldedSetIterable iter X.env x = pure x := by intro _; rfl) : DS X C W (.For tg iter body [] pos) (tFor wi g t) (mFor fi fg f) := ⟨ps_for hp q.calm hi.pe hg.pe hb.pe hs, sb_for hi.sv hg.sv hb.sv⟩
theorem ds_while (μ : S T → Nat) (hp : PassesOwn (model X.prog X.w) X.A X.env X.xe) (hc : DT X C W c tc fc) (hb : DSs X C W body t f) : DS X C W (.While c body [] pos) (tWhile tc t) (mWhile μ fc f) := ⟨ps_while hp hc.pe hb.pe, sb_while μ hc.sv hb.sv⟩
theorem ds_aug {x : Str} {op : Operator} {r : R2} {fop : D → D → Option D} {pos' : Pos} (i : Nat) (q : Cur X C W k cls K) (ho : PIp X op r) (hr : Rv C r fop) (h : DV X C W e te fe) (hi : X.N[i]? = some x := by rfl) (hx : Loc X.env.scope x := by first | exact Or.inl rfl | exact Or.inr rfl)
    (hf : X.fn x = true ∨ X.env.scope.names.lookup x = some .local := by first | exact .inl rfl | exact .inr rfl) : DS X C W (.AugAssign (.Name x pos') op e pos) (tAug i te r) (mAug i fop fe) := ⟨ps_aug q.nd hi hx h.pe ho hf, sb_aug h.sv hr⟩
end
end Pm

set_option Elab.async false
set_option linter.all false
set_option maxRecDepth 100000
/-! Defs that are handed the script and the town; the draw. -/
namespace Pm
open PySem L2 RZ

inductive Rt (T : Type) where
  | ok (d : D) (t : T) | exc (c : Nat) (t : T) | stuck
section
variable {T : Type}
structure AftT (C : Ct T) (F H F' H' : Hp) (t' : T) : Prop where
  ex : Same F F'
  sub : Sub F' H'
  nw : ∀ a o, F' a = some o → F a = some o ∨ H a = none
  st : ∀ a o, H a = some o → a ∉ C.fp → H' a = some o
  fpF : ∀ a ∈ C.fp, F' a = none
  fpH : ∀ a ∈ C.fp, H' a ≠ none
  j : C.J t' F' H'
def ArgT (C : Ct T) (F : Hp) (v : V) : Slot → Prop
  | .fz d => Rep C.K F v d
  | .pt n => v = .ref (C.ptr n)
  | _ => False
def ArgsT (C : Ct T) (F : Hp) : List V → List Slot → Prop
  | [], [] => True
  | v :: vs, x :: xs => ArgT C F v x ∧ ArgsT C F vs xs
  | _, _ => False
def spT (C : Ct T) (g : List Slot → T → Rt T) : Sp := fun vs H Q E => ∃ F xs t, Sub F H ∧ C.J t F H ∧ (∀ a ∈ C.fp, F a = none ∧ H a ≠ none) ∧ ArgsT C F vs xs ∧
  match g xs t with
  | .ok d t' => ∀ v F' H', AftT C F H F' H' t' → Rep C.K F' v d → Q v H'
  | .exc c t' => ∀ F' H', AftT C F H F' H' t' → E (.ref (C.cls c)) none H'
  | .stuck => False
/-- .. whichever the context's addresses are -/
def spX (Cs : Ct T → Prop) (g : List Slot → T → Rt T) : Sp := fun vs H Q E => ∃ C, Cs C ∧ spT C g vs H Q E
def argOk : Slot → Bool
  | .fz _ => true
  | .pt _ => true
  | _ => false
def mCallT (g : List Slot → T → Rt T) (fr : M T (List Slot)) : M T D := mBind fr fun xs s => if xs.all argOk = true then match g xs s.t with
  | .ok d t' => .ok d ⟨s.env, t'⟩
  | .exc c t' => .exc c ⟨s.env, t'⟩
  | .stuck => .stuck else .stuck
variable {C : Ct T} {W : WX} {F0 H0 F F1 H : Hp} {L : Nat → Option Addr} {s : S T} {σ : L2.St}
theorem Good.aftT {F' H' : Hp} {t' : T} (g : Good C F0 H0 L s σ F H) (a : AftT C F H F' H' t') : Good C F0 H0 L ⟨s.env, t'⟩ σ F' H' where
  len := g.len
  sub := a.sub
  ext0 := g.ext0.trans a.ex
  base := fun b o h z => a.st b o (g.base b o h z) z
  newF := fun b o h => by
    rcases a.nw b o h with z | z
    · exact g.newF b o z
    · exact .inr (g.fresh z).2.1
  fp0 := g.fp0
  fpF := a.fpF
  fpH := a.fpH
  lH := g.lH
  slots := fun i x h => by
    have k := g.slots i x h
    have fr : ∀ p o, F p = none → H p = some o → F' p = none := fun p o h1 h2 => by
      cases q : F' p with
      | none => rfl
      | some o' =>
        rcases a.nw p o' q with y | y
        · rw [h1] at y; cases y
        · rw [h2] at y; cases y
    cases x with
    | un => trivial
    | fz d =>
      obtain ⟨v, h1, h2⟩ := k
      exact ⟨v, h1, h2.mono a.ex⟩
    | ol xs =>
      obtain ⟨p, vs, h1, h2, h3, h4, h5⟩ := k
      exact ⟨p, vs, h1, fr p _ h2 h4, h3, a.st _ _ h4 (fun z => g.fp0 p z h3), h5.mono a.ex⟩
    | od kvs =>
      obtain ⟨p, vs, h1, h2, h3, h4, h5⟩ := k
      exact ⟨p, vs, h1, fr p _ h2 h4, h3, a.st _ _ h4 (fun z => g.fp0 p z h3), h5.mono a.ex⟩
    | pt n => exact k
    | bw xs =>
      obtain ⟨q, vs, h1, h2, h3, h4, h5⟩ := k
      exact ⟨q, vs, h1, h2, h3, h4, h5.mono a.ex⟩
  sep := g.sep
  j := a.j
theorem args_of : ∀ {vs : List V} {xs : List Slot}, SlotVs C H0 s σ F H vs xs → xs.all argOk = true → ArgsT C F vs xs
  | [], [], _, _ => trivial
  | v :: vs, x :: xs, h, k => by
    rw [List.all_cons, Bool.and_eq_true] at k
    refine ⟨?_, args_of h.2.1 k.2⟩
    have h1 := h.1
    cases x with
    | fz d => exact h1
    | pt n => exact h1
    | _ => cases k.1
  | [], _ :: _, h, _ => h.elim
  | _ :: _, [], h, _ => h.elim
theorem sv_callT {Cs : Ct T → Prop} (hC : Cs C) {g : List Slot → T → Rt T} {tr : TA} {fr : M T (List Slot)} (ha : Sas C W tr fr) : Sv C W (tCallS (spX Cs g) (WE W) tr) (mCallT g fr) := by
  intro F0 H0 L s σ F H Q gd h
  refine ha _ _ _ _ _ _ _ _ gd (po_imp (po_bind h) fun xs s1 F1 H1 g1 e1 h1 vs rv => ?_)
  by_cases hk : xs.all argOk = true
  · rw [if_pos hk] at h1
    refine ⟨C, hC, F1, xs, s1.t, g1.sub, g1.j, fun a z => ⟨g1.fpF a z, g1.fpH a z⟩, args_of rv hk, ?_⟩
    cases q : g xs s1.t with
    | ok d t' =>
      simp only [q] at h1
      exact fun v F' H' a r => h1 F' H' (g1.aftT a) a.ex v r
    | exc c t' =>
      simp only [q] at h1
      exact fun F' H' a => h1 F' H' (g1.aftT a) a.ex
    | stuck => simp only [q] at h1; exact h1.elim
  · rw [if_neg hk] at h1; exact h1.elim
def mPt (i : Nat) : M T Slot := fun s => match s.env[i]? with
  | some (.pt n) => .ok (.pt n) s
  | _ => .stuck
theorem se_pt (i : Nat) : Se C W (tVar i) (mPt i) := by
  intro F0 H0 L s σ F H Q g h
  unfold mPt at h
  cases q : s.env[i]? with
  | none => rw [q] at h; exact h.elim
  | some x =>
    rw [q] at h
    cases x with
    | pt n => exact ⟨_, g.slots i _ q, h F H g (Same.refl F) _ rfl⟩
    | _ => exact h.elim
def outOfT : Res T Out → Rt T
  | .ok (.ret d) s => .ok d s.t
  | .ok .nx s => .ok .none s.t
  | .exc c s => .exc c s.t
  | _ => .stuck
def fnT (k n : Nat) (body : M T Out) (xs : List Slot) (t : T) : Rt T := if xs.length = k ∧ xs.all argOk = true then outOfT (body ⟨xs ++ List.replicate (n - k) .un, t⟩) else .stuck
theorem ArgsT.length : ∀ {vs : List V} {xs : List Slot}, ArgsT C F vs xs → vs.length = xs.length
  | [], [], _ => rfl
  | _ :: _, _ :: _, h => congrArg Nat.succ (ArgsT.length h.2)
  | [], _ :: _, h => h.elim
  | _ :: _, [], h => h.elim
theorem ArgsT.at : ∀ {vs : List V} {xs : List Slot} {i : Nat} {x : Slot}, ArgsT C F vs xs → xs[i]? = some x → ∃ v, vs[i]? = some v ∧ ArgT C F v x
  | [], [], _, _, _, h => by simp at h
  | v :: vs, x :: xs, 0, y, q, h => by simp at h; subst h; exact ⟨v, rfl, q.1⟩
  | v :: vs, x :: xs, j + 1, y, q, h => by
    obtain ⟨w, h1, h2⟩ := ArgsT.at (i := j) q.2 (by simpa using h)
    exact ⟨w, by simpa using h1, h2⟩
  | [], _ :: _, _, _, h, _ => h.elim
  | _ :: _, [], _, _, h, _ => h.elim
end
section
variable {P : Program} {w : World} {K : PySem.W.Frag} {mg : Str → Option Value} {base : Heap} {T : Type}
/-- a body's reading from its promise -/
theorem body_T {Cs : Ct T → Prop} {N ps : List Str} {m : M T Out} {t : TS} {vs : List V} {H : Hp} {Q : VK} {E : XK} (hpl : ps.length ≤ N.length) (sb : ∀ C, Cs C → Sb C (WofE E) t m) (h : spX Cs (fnT ps.length N.length m) vs H Q E) : t { nx := fun _ H' => Q .non H', rt := Q } (L2.start N vs) H := by
  obtain ⟨C, hC, F1, xs, t0, u, j, fp, r, q⟩ := h
  unfold fnT at q
  by_cases hl : xs.length = ps.length ∧ xs.all argOk = true
  · rw [if_pos hl] at q
    have hlv := r.length
    have hat : ∀ (i : Nat) (x : Slot), (xs ++ List.replicate (N.length - ps.length) Slot.un)[i]? = some x → x = .un ∨ ∃ v, (L2.start N vs)[i]? = some (some v) ∧ ArgT C F1 v x := fun i x hx => by
      by_cases hi : i < xs.length
      · rw [List.getElem?_append_left hi] at hx
        obtain ⟨v, h1, h2⟩ := r.at hx
        refine .inr ⟨v, ?_, h2⟩
        unfold L2.start
        rw [List.getElem?_append_left (by rw [List.length_map]; omega), List.getElem?_map, h1]
        rfl
      · rw [List.getElem?_append_right (by omega), List.getElem?_replicate] at hx
        split at hx
        · cases hx; exact .inl rfl
        · cases hx
    have g : Good C F1 H (fun _ => none) ⟨xs ++ List.replicate (N.length - ps.length) .un, t0⟩ (L2.start N vs) F1 H :=
      { len := by
          unfold L2.start
          simp only [List.length_append, List.length_replicate, List.length_map]
          omega
        sub := u
        ext0 := Same.refl _
        base := fun a o e _ => e
        newF := fun a o e => .inl e
        fp0 := fun a z => (fp a z).2
        fpF := fun a z => (fp a z).1
        fpH := fun a z => (fp a z).2
        lH := fun _ _ z => nomatch z
        slots := fun i x hx => by
          rcases hat i x hx with rfl | ⟨v, h1, h2⟩
          · trivial
          · cases x with
            | fz d => exact ⟨v, h1, h2⟩
            | pt n => exact h1.trans (congrArg (fun z => some (some z)) h2)
            | _ => exact h2.elim
        sep := fun i j x y p _ hx _ ox => by
          rcases hat i x hx with rfl | ⟨v, h1, h2⟩
          · cases ox
          · cases x with
            | ol _ => exact h2.elim
            | od _ => exact h2.elim
            | _ => cases ox
        j := j }
    have aft : ∀ s' σ' F' H', Good C F1 H (fun _ => none) s' σ' F' H' → Same F1 F' → AftT C F1 H F' H' s'.t := fun s' σ' F' H' g' e => ⟨e, g'.sub, g'.newF, fun a o h z => g'.base a o h z, g'.fpF, g'.fpH, g'.j⟩
    refine sb C hC _ _ _ _ _ _ _ _ g ?_
    cases e : m ⟨xs ++ List.replicate (N.length - ps.length) .un, t0⟩ with
    | stuck => rw [e] at q; exact q.elim
    | exc c s' =>
      rw [e] at q
      exact fun σ' F' H' g' e' => q F' H' (aft s' σ' F' H' g' e')
    | ok o s' =>
      rw [e] at q
      cases o with
      | bk => exact q.elim
      | ct => exact q.elim
      | nx => exact fun σ' F' H' g' e' => q .non F' H' (aft s' σ' F' H' g' e') .non
      | ret d => exact fun v σ' F' H' g' e' r' => q v F' H' (aft s' σ' F' H' g' e') r'
  · rw [if_neg hl] at q; exact q.elim
theorem okT {Cs : Ct T → Prop} {x qual : Str} {st : Stmt} {f : Addr} {fd : FuncData} {N ps : List Str} {k : Nat} {m : M T Out} (F : Fun K x qual st f fd) (S : FnScope N ps (defScope st))
    (hbody : ∀ (cdv : Value) (A : Around) (outer : List Env) (s : Shared) (H : Hp) (E : XK), Room k (A.deeper (PyProof.Rows.envOfC qual (defScope st) s.heap.objs.size f cdv)) →
      ∃ t, PSs (cxOf (L2.CX P w) P w K mg base N qual (defScope st) f cdv A outer s H E) (defBody st) t ∧ ∀ C, Cs C → Sb C (WofE E) t m) :
    FnOk P w K mg base (L2.CX P w) (k + 1) f fd ps (spX Cs (fnT ps.length N.length m)) := by
  have hpl : ps.length ≤ N.length := by
    have e := congrArg List.length S.pre
    rw [List.length_take] at e
    omega
  refine F.okX S (fun vs H Q E h => ?_) (fun cdv A outer s H vs Q E hr h => ?_)
  · obtain ⟨C, hC, F1, xs, t, u, j, fp, r, q⟩ := h
    unfold fnT at q
    by_cases hl : xs.length = ps.length ∧ xs.all argOk = true
    · rw [r.length, hl.1]
    · rw [if_neg hl] at q; exact q.elim
  · obtain ⟨t, ht, sb⟩ := hbody cdv A outer s H E hr
    exact ⟨t, ht, body_T hpl sb h⟩
end

/-- a def by its promise of any kind -/
structure DefX (P : Program) (w : World) (K : PySem.W.Frag) (mg : Str → Option Value) (base : Heap) (x : Str) (k : Nat) (ps : List Str) (sp : Sp) : Prop where
  ok : ∃ (f : Addr) (fd : FuncData), FnOk P w K mg base (L2.CX P w) k f fd ps sp ∧ mg x = some (.ref f) ∧ PySem.W.keepIn K (.ref f) = true ∧ Binds K fd ps []
section
variable {T : Type} {X : Cx} {C : Ct T} {W : WX} {k : Nat} {cls : Nat → Addr} {K : PySem.W.Frag} {e : Expr} {es : List Expr} {pos p : Pos} {tr : TA} {fr : M T (List Slot)}
theorem de_pt (i : Nat) {x : Str} (hN : X.N[i]? = some x := by rfl) (hv : Vis X.env.scope x := by first | exact Or.inl rfl | exact Or.inr (Or.inl rfl) | exact Or.inr (Or.inr rfl)) (hd : (x == ("__debug__" : Str)) = false := by decide)
    (hcd : (x == ("__classdict__" : Str)) = false := by decide) : DE X C W (.Name x pos) (tVar i) (mPt i) := ⟨pe_var hN hv hd hcd, se_pt i⟩
theorem dv_callT {Cs : Ct T → Prop} {k' : Nat} {x : Str} {ps : List Str} {g : List Slot → T → Rt T} (q : Cur X C W k cls K) (hC : Cs C) (F : DefX X.prog X.w X.K X.mg X.base x k' ps (spX Cs g)) (hk : k' ≤ k) (ha : DAs X C W (e :: es) tr fr) (hg : Gl X x := by rfl)
    (hdb : (x == ("__debug__" : Str)) = false := by decide) (he : starEach (e :: es) X.env = (false, eval e X.env) :: starEach es X.env := by rfl) (hpl : (backTo pos (starEach es X.env)).any (·.1) = false := by rfl) :
    DV X C W (.Call (.Name x p) (e :: es) [] pos) (tCallS (spX Cs g) (WE W) tr) (mCallT g fr) := by
  obtain ⟨f, fd, F1, m, kp, b⟩ := F.ok
  exact ⟨pe_callS F1 (q.hr.mono hk) hg m kp b (fun σ => passAt q.tk σ) ha.pe hdb he hpl, sv_callT hC ha.sv⟩
end

/-! ### the script and the town -/
structure Town where
  ns : List Int
  c : Int
  r : Int
def CT (K : PySem.W.Frag) (cls : Nat → Addr) (a p : Addr) : Ct Town where
  ptr := fun n => if n = 0 then a else p
  fp := [p]
  J := fun t F H => SqL K F a (t.ns.map V.int) ∧ H p = some (.lst [.int t.c, .int t.r]) ∧ 0 ≤ t.c ∧ t.ns.length ≤ 63
  stab := fun t F H F' H' h e k => ⟨by
    rcases h.1 with (z | ⟨o, z⟩) | z
    · exact .inl (.inl (e _ _ z))
    · exact .inl (.inr ⟨o, e _ _ z⟩)
    · exact .inr z, by rw [k p (by simp)]; exact h.2.1, h.2.2⟩
  K := K
  cls := cls
def CTs (K : PySem.W.Frag) (cls : Nat → Addr) : Ct Town → Prop := fun C => ∃ a p, C = CT K cls a p
/-- a draw: what comes, the town behind -/
def drawF (t : Town) (n : Int) : Int × Town :=
  if 0 < t.r then (t.r % n, { t with r := t.r / n })
  else if t.ns = [] then (t.c % n, { t with c := t.c + 1 })
  else if t.c < t.ns.length ∧ 10 ^ 18 ≤ t.ns.getD t.c.toNat 0 then (t.ns.getD t.c.toNat 0 % n, { t with c := t.c + 1, r := t.ns.getD t.c.toNat 0 / n % (10 ^ 60 * 10 ^ 60) })
  else (((t.ns.getD (t.c % t.ns.length).toNat 0 * 1103515245 + 7919 * t.c + 12345) % 2147483647) ^ 5 % 2147483647 % 999983 % n, { t with c := t.c + 1 })
def gDraw : List Slot → Town → Rt Town
  | [.pt 0, .pt 1, .fz (.int n)], t => if 0 < n ∧ n < 1000000 then .ok (.int (drawF t n).1) (drawF t n).2 else .stuck
  | _, _ => .stuck
theorem draw_lt (t : Town) (n : Int) (h : 0 < n) : 0 ≤ (drawF t n).1 ∧ (drawF t n).1 < n := by
  unfold drawF
  have k : ∀ x : Int, 0 ≤ x % n ∧ x % n < n := fun x => ⟨Int.emod_nonneg x (by omega), Int.emod_lt_of_pos x h⟩
  split
  · exact k _
  · split
    · exact k _
    · split
      · exact k _
      · exact k _
theorem pget_list {X : Cx} : PGet X (fun o i H Q => ∃ p xs k j v, o = .ref p ∧ i = .int k ∧ H p = some (.lst xs) ∧ k = ((j : Nat) : Int) ∧ xs[j]? = some v ∧ Q v H) := by
  intro pins s σ H o i ov iv Q I ro ri h
  obtain ⟨p, xs, k, j, v, rfl, rfl, hp, rfl, hv, q⟩ := h
  cases ro
  obtain ⟨t, rfl⟩ := ri
  obtain ⟨its, r, pl, hz⟩ := I.list (SqL.of hp)
  obtain ⟨u, hu, ru⟩ := r.get hv
  have hj : j < xs.length := (List.getElem?_eq_some_iff.mp hv).1
  have hs : sizeLine = 16777216 := sizeLine_eq
  exact wpAny_getItem_list pl.isList (Int.natCast_nonneg _) (by omega) (by simpa using hu) ⟨v, H, I, ru, q⟩
end Pm

set_option Elab.async false
set_option linter.all false
set_option maxRecDepth 100000
/-! The law's own def; small ends. -/
namespace Pm
open PySem L2 RZ

theorem DSs.two {T : Type} {X : Cx} {C : Ct T} {W : WX} {st : List Stmt} {t : TS} {m : M T Out} (h : DSs X C W st t m) : ∃ t, PSs X st t ∧ Sb C W t m := ⟨t, h.pe, h.sv⟩
theorem DSs.twoT {T : Type} {X : Cx} {Cs : Ct T → Prop} {W : WX} {st : List Stmt} {t : TS} {m : M T Out} (hne : ∃ C, Cs C) (h : ∀ C, Cs C → DSs X C W st t m) : ∃ t, PSs X st t ∧ ∀ C, Cs C → Sb C W t m := by
  obtain ⟨C, hC⟩ := hne
  exact ⟨t, (h C hC).pe, fun C hC => (h C hC).sv⟩
theorem cts_any (K : PySem.W.Frag) (cls : Nat → Addr) : ∃ C, CTs K cls C := ⟨_, 0, 0, rfl⟩
theorem Cur.town {X : Cx} {K : PySem.W.Frag} {cls : Nat → Addr} {W : WX} {k : Nat} {C : Ct Town} (hC : CTs K cls C) (tk : Takes X W) (hr : Room k X.A) (hK : X.K = K) (hc : X.calm = true) (nd : X.N.Nodup) : Cur X C W k cls K := by
  obtain ⟨a, p, rfl⟩ := hC
  exact Cur.mk' tk hr hK rfl hc nd rfl
theorem Cur.pure {X : Cx} {K : PySem.W.Frag} {cls : Nat → Addr} {W : WX} {k : Nat} (tk : Takes X W) (hr : Room k X.A) (hK : X.K = K) (hc : X.calm = true) (nd : X.N.Nodup) : Cur X (CU K cls) W k cls K := Cur.mk' tk hr hK rfl hc nd rfl
def opAddI : D → D → Option D
  | .int i, .int j => some (.int (i + j))
  | _, _ => none
theorem rv_ip_add {T : Type} {C : Ct T} : Rv C (ipI fun i j => i + j) opAddI := by
  intro F0 H0 L s σ F H x y a b Q g rx ry h
  cases rx with
  | int i =>
    cases ry with
    | int j => exact ⟨i, j, rfl, rfl, rv_end g h (.int _)⟩
    | _ => exact h.elim
  | _ => exact h.elim
/-- law's promise: a list of at most 63 ints is handed in, True comes out -/
def spLaw (K : PySem.W.Frag) : Sp := fun vs H Q E => ∃ (a : Addr) (ns : List Int), vs = [.ref a] ∧ SqL K H a (ns.map V.int) ∧ ns.length ≤ 63 ∧ ∀ H', Q (.bl true) H'
section
variable {P : Program} {w : World} {K : PySem.W.Frag} {mg : Str → Option Value} {base : Heap} {cls : Nat → Addr}
theorem okLaw {st : Stmt} {f : Addr} {fd : FuncData} {N ps : List Str} {k : Nat} {m : M Town Out} (F : Fun K "law" "law" st f fd) (S : FnScope N ps (defScope st)) (hps : ps.length = 1) (hN : 2 ≤ N.length)
    (hbody : ∀ (cdv : Value) (A : Around) (outer : List Env) (s : Shared) (H : Hp) (E : XK), Room k (A.deeper (PyProof.Rows.envOfC "law" (defScope st) s.heap.objs.size f cdv)) →
      ∃ t, PSs (cxOf (L2.CX P w) P w K mg base N "law" (defScope st) f cdv A outer s H E) (defBody st) (tSeq (tAsg (tLst (tCons (tC (.int 0)) (tCons (tC (.int 0)) tNil))) (gName 1)) t) ∧ ∀ C, CTs K cls C → Sb C (WofE E) t m)
    (hm : ∀ ns : List Int, ns.length ≤ 63 → ∃ s', m ⟨.pt 0 :: .pt 1 :: List.replicate (N.length - 2) .un, ⟨ns, 0, 0⟩⟩ = .ok (.ret (.bool true)) s') :
    FnOk P w K mg base (L2.CX P w) (k + 1) f fd ps (spLaw K) := by
  refine F.okX S (fun vs H Q E h => ?_) (fun cdv A outer s H vs Q E hr h => ?_)
  · obtain ⟨a, ns, rfl, _⟩ := h
    exact hps.symm
  · obtain ⟨a, ns, rfl, hS, hlen, hq⟩ := h
    obtain ⟨t, ht, sb⟩ := hbody cdv A outer s H E hr
    refine ⟨_, ht, ?_⟩
    refine ⟨by show 2 ≤ sizeLine; decide, fun p hp => ?_⟩
    obtain ⟨s', hs'⟩ := hm ns hlen
    -- the script's object alone is frozen
    have hF : ∃ F1 : Hp, Sub F1 (upd H p (.lst [.int 0, .int 0])) ∧ SqL K F1 a (ns.map V.int) ∧ F1 p = none := by
      rcases hS with h | h
      · have hap : a ≠ p := by
          rcases h with h | ⟨o, h⟩ <;> exact ne_of_none h hp
        refine ⟨fun b => if b = a then H a else none, fun b o e => ?_, ?_, ?_⟩
        · by_cases hb : b = a
          · subst hb
            have e' : H b = some o := by simpa using e
            rw [upd_ne hap]
            exact .inl e'
          · have e' : (none : Option HO) = some o := by simpa [hb] using e
            cases e'
        · rcases h with h | ⟨o, h⟩
          · exact .inl (.inl (by simpa using h))
          · exact .inl (.inr ⟨o, by simpa using h⟩)
        · simp [Ne.symm hap]
      · exact ⟨fun _ => none, fun b o e => (nomatch e), .inr h, rfl⟩
    obtain ⟨F1, u, hSF, hFp⟩ := hF
    have hst : L2.start N [V.ref a] = some (V.ref a) :: none :: List.replicate (N.length - 2) none := by
      unfold L2.start
      obtain ⟨n, hn⟩ : ∃ n, N.length = n + 2 := ⟨N.length - 2, by omega⟩
      rw [hn]
      rfl
    have gd : Good (CT K cls a p) F1 (upd H p (.lst [.int 0, .int 0])) (fun _ => none) ⟨.pt 0 :: .pt 1 :: List.replicate (N.length - 2) .un, ⟨ns, 0, 0⟩⟩ ((L2.start N [V.ref a]).set 1 (some (.ref p))) F1 (upd H p (.lst [.int 0, .int 0])) :=
      { len := by rw [hst]; simp
        sub := u
        ext0 := Same.refl _
        base := fun a o e _ => e
        newF := fun a o e => .inl e
        fp0 := fun b z => by
          have e : b = p := by simpa [CT] using z
          subst e
          rw [upd_same]
          exact fun z => nomatch z
        fpF := fun b z => by
          have e : b = p := by simpa [CT] using z
          subst e
          exact hFp
        fpH := fun b z => by
          have e : b = p := by simpa [CT] using z
          subst e
          rw [upd_same]
          exact fun z => nomatch z
        lH := fun _ _ z => nomatch z
        slots := fun i x hx => by
          rw [hst]
          match i, hx with
          | 0, hx => cases hx; exact rfl
          | 1, hx => cases hx; exact rfl
          | i + 2, hx =>
            have hx' : (List.replicate (N.length - 2) Slot.un)[i]? = some x := hx
            rw [List.getElem?_replicate] at hx'
            split at hx'
            · cases hx'; trivial
            · cases hx'
        sep := fun i j x y p' _ hx _ ox => by
          match i, hx with
          | 0, hx => cases hx; cases ox
          | 1, hx => cases hx; cases ox
          | i + 2, hx =>
            have hx' : (List.replicate (N.length - 2) Slot.un)[i]? = some x := hx
            rw [List.getElem?_replicate] at hx'
            split at hx'
            · cases hx'; cases ox
            · cases hx'
        j := ⟨hSF, upd_same, Int.le_refl 0, hlen⟩ }
    refine sb _ ⟨a, p, rfl⟩ _ _ _ _ _ _ _ _ gd ?_
    rw [hs']
    intro v σ' F' H' g' e' r'
    cases r'
    exact hq H'
end
end Pm

set_option Elab.async false
set_option linter.all false
set_option maxRecDepth 100000
/-! The draw's own reading. -/
namespace Pm
open PySem L2 RZ

abbrev rGt0 : R2 := rI0 fun i j => .bl (decide (j < i))
abbrev rGe0 : R2 := rI0 fun i j => .bl (decide (j ≤ i))
abbrev rLt0 : R2 := rI0 fun i j => .bl (decide (i < j))
abbrev rMod0 : R2 := rI (fun _ j => 0 < j) fun i j => .int (i % j)
abbrev rDiv0 : R2 := rI CDivW fun i j => .int (i / j)
abbrev rMul0 : R2 := rI CMul fun i j => .int (i * j)
abbrev rMulX : R2 := rI CMulW fun i j => .int (i * j)
abbrev rAdd0 : R2 := rI0 fun i j => .int (i + j)
abbrev rPow0 : R2 := rI CPow fun i j => .int (i ^ j.toNat)
abbrev rPget : V → V → Hp → VK → Prop := fun o i H Q => ∃ p xs k j v, o = .ref p ∧ i = .int k ∧ H p = some (.lst xs) ∧ k = ((j : Nat) : Int) ∧ xs[j]? = some v ∧ Q v H
abbrev tI (i : Int) : TE := tC (.int i)
abbrev tTown (K : PySem.W.Frag) (i : Int) : TE := tOp (rIxL K) (tVar 1) (tI i)
abbrev tLenS (K : PySem.W.Frag) : TE := tCB (rLenA K) (tCons (tVar 0) tNil)
abbrev tDraw (K : PySem.W.Frag) : TS :=
  tSeq (tIfS (tTest (tOp rGt0 (tTown K 1) (tI 0)))
    (tSeq (tAsg (tOp rMod0 (tTown K 1) (tVar 2)) (gName 3)) (tSeq (tAsg (tOp rDiv0 (tTown K 1) (tVar 2)) (gSub (tVar 1) (tI 1) rSetL)) (tRet (tVar 3)))) tNext)
  (tSeq (tAsg (tTown K 0) (gName 4))
  (tSeq (tAugS (tVar 1) (tI 0) (tI 1) rPget (ipI fun i j => i + j) rSetL)
  (tSeq (tIfS (tTest (tOp (rEqD K) (tVar 0) (tLst tNil))) (tRet (tOp rMod0 (tVar 4) (tVar 2))) tNext)
  (tSeq (tIfS (tAnd (tTest (tOp rLt0 (tVar 4) (tLenS K))) (tTest (tOp rGe0 (tOp (rIxL K) (tVar 0) (tVar 4)) (tOp rPow0 (tI 10) (tI 18)))))
    (tSeq (tAsg (tOp rMod0 (tOp rDiv0 (tOp (rIxL K) (tVar 0) (tVar 4)) (tVar 2)) (tOp rMulX (tOp rPow0 (tI 10) (tI 60)) (tOp rPow0 (tI 10) (tI 60)))) (gSub (tVar 1) (tI 1) rSetL))
      (tRet (tOp rMod0 (tOp (rIxL K) (tVar 0) (tVar 4)) (tVar 2)))) tNext)
  (tSeq (tAsg (tOp rMod0 (tOp rAdd0 (tOp rAdd0 (tOp rMul0 (tOp (rIxL K) (tVar 0) (tOp rMod0 (tVar 4) (tLenS K))) (tI 1103515245)) (tOp rMul0 (tI 7919) (tVar 4))) (tI 12345)) (tI 2147483647)) (gName 5))
    (tRet (tOp rMod0 (tOp rMod0 (tOp rMod0 (tOp rPow0 (tVar 5) (tI 5)) (tI 2147483647)) (tI 999983)) (tVar 2))))))))
theorem seq_ints {K : PySem.W.Frag} {H : Hp} {a : Addr} {ns : List Int} (h : SqL K H a (ns.map V.int)) : Dp K H (.ref a) (.list (ns.map .int)) := by
  refine .lst h ?_
  clear h
  induction ns with
  | nil => exact .nil
  | cons x r ih => exact .cons (.int x) ih
theorem shaped_ints : ∀ (ns : List Int), SeqAt.shaped (.list (ns.map .int)) = true := by
  intro ns
  have h1 : PyData.canLayAll0 (ns.map PyData.int) = true := by
    induction ns with
    | nil => rfl
    | cons x r ih =>
      rw [List.map_cons]
      unfold PyData.canLayAll0
      rw [ih]
      rfl
  have h2 : PyData.depthAll (ns.map PyData.int) = 0 := by
    clear h1
    induction ns with
    | nil => rfl
    | cons x r ih =>
      rw [List.map_cons]
      unfold PyData.depthAll
      rw [ih]
      rfl
  unfold SeqAt.shaped PyData.canLay0 PyData.depth
  rw [h1, h2]
  rfl
theorem at_ints {ns : List Int} {i : Int} (h0 : 0 ≤ i) (h1 : i < ns.length) : atI (ns.map V.int) i = some (.int (ns.getD i.toNat 0)) := by
  unfold atI ixN
  rw [List.length_map, if_pos h0, if_pos h1]
  show (ns.map V.int)[i.toNat]? = _
  rw [List.getElem?_map, List.getD_eq_getElem?_getD]
  have : i.toNat < ns.length := by omega
  rw [List.getElem?_eq_getElem this]
  rfl
theorem gDraw_inv (xs : List Slot) (t : Town) : (∃ n, xs = [.pt 0, .pt 1, .fz (.int n)] ∧ 0 < n ∧ n < 1000000 ∧ gDraw xs t = .ok (.int (drawF t n).1) (drawF t n).2) ∨ gDraw xs t = .stuck := by
  unfold gDraw
  split
  · rename_i n
    by_cases hn : 0 < n ∧ n < 1000000
    · rw [if_pos hn]; exact .inl ⟨n, rfl, hn.1, hn.2, rfl⟩
    · rw [if_neg hn]; exact .inr rfl
  · exact .inr rfl
theorem draw_reads {K : PySem.W.Frag} {cls : Nat → Addr} {vs : List V} {H : Hp} {Q : VK} {E : XK} (h : spX (CTs K cls) gDraw vs H Q E) :
    tDraw K { nx := fun _ H' => Q .non H', rt := Q } (L2.start ["_law_script", "_law_town", "_law_many", "_law_one", "_law_at", "_law_mixed"] vs) H := by
  obtain ⟨C, ⟨a, p, rfl⟩, F, xs, t, u, ⟨j1, j2, j3, j4⟩, fp, r, q⟩ := h
  rcases gDraw_inv xs t with ⟨n, rfl, hn0, hn1, e⟩ | e
  · rw [e] at q
    · match vs, r with
      | [v0, v1, v2], ⟨r0, r1, r2, _⟩ =>
        cases r0
        cases r1
        cases r2
        have e0 : (CT K cls a p).ptr 0 = a := rfl
        have e1 : (CT K cls a p).ptr 1 = p := rfl
        rw [e0, e1]
        have fpn : F p = none := (fp p (by simp [CT])).1
        have hSx : ∀ H', Sub F H' → SqL K H' a (t.ns.map V.int) := fun H' u' => by
          rcases j1 with (z | ⟨o', z⟩) | z
          · exact SqL.of (u'.lst z)
          · rcases u' a _ z with y | ⟨⟨ks, y⟩, _⟩
            · exact .inl (.inr ⟨o', y⟩)
            · cases y
          · exact .inr z
        have subP : ∀ {H' : Hp} {o : HO}, Sub F H' → Sub F (upd H' p o) := fun {H' o} u' b o' e => by
          rw [upd_ne (ne_of_none e fpn)]
          exact u' b o' e
        -- behind the draw: the town is t'
        have fin : ∀ (t' : Town) (i : Int) (H' : Hp), drawF t n = (i, t') → t'.ns = t.ns → 0 ≤ t'.c → Sub F H' → H' p = some (.lst [.int t'.c, .int t'.r]) → (∀ b o, H b = some o → b ≠ p → H' b = some o) → Q (.int i) H' := by
          intro t' i H' ed en ec u' hp' st'
          rw [ed] at q
          have j' : (CT K cls a p).J t' F H' := ⟨by rw [en]; exact j1, hp', ec, by rw [en]; exact j4⟩
          refine q _ F _ ⟨Same.refl F, u', fun b o e => .inl e, fun b o e z => st' b o e (fun y => z (by simp [CT, y])), fun b z => (fp b z).1, fun b z => ?_, j'⟩ (.int i)
          have e : b = p := by simpa [CT] using z
          rw [e, hp']
          exact fun z => nomatch z
        have st : L2.start ["_law_script", "_law_town", "_law_many", "_law_one", "_law_at", "_law_mixed"] [V.ref a, V.ref p, V.int n] = [some (V.ref a), some (V.ref p), some (V.int n), none, none, none] := rfl
        rw [st]
        have dn : ∀ x : Int, CDivW x n := fun x => ⟨hn0, by
          have h2 : n.natAbs < 2 ^ 64 := by omega
          have h3 : n.natAbs.log2 < 64 := (Nat.log2_lt (by omega)).mpr h2
          omega⟩
        refine ⟨.ref p, rfl, p, _, 1, .int t.r, rfl, rfl, SqL.of j2, rfl, t.r, 0, rfl, rfl, _, rfl, ?_⟩
        by_cases hr : 0 < t.r
        · rw [decide_eq_true hr]
          refine iteT ?_
          refine ⟨.ref p, rfl, p, _, 1, .int t.r, rfl, rfl, SqL.of j2, rfl, .int n, rfl, t.r, n, rfl, rfl, hn0, ?_⟩
          refine ⟨.ref p, rfl, p, _, 1, .int t.r, rfl, rfl, SqL.of j2, rfl, .int n, rfl, t.r, n, rfl, rfl, dn _, ?_⟩
          refine ⟨.ref p, rfl, p, _, 1, 1, rfl, rfl, j2, rfl, ?_⟩
          refine ⟨_, rfl, ?_⟩
          refine fin { t with r := t.r / n } _ _ ?_ rfl j3 (subP u) upd_same fun b o e z => by rw [upd_ne z]; exact e
          unfold drawF
          rw [if_pos hr]
        · rw [decide_eq_false hr]
          refine iteF ?_
          refine ⟨.ref p, rfl, p, _, 0, .int t.c, rfl, rfl, SqL.of j2, rfl, ?_⟩
          refine ⟨.ref p, rfl, p, _, 0, 0, .int t.c, rfl, rfl, j2, rfl, rfl, t.c, 1, rfl, rfl, p, _, 0, 0, rfl, rfl, j2, rfl, ?_⟩
          refine ⟨.ref a, rfl, by show 0 ≤ sizeLine; exact Nat.zero_le _, fun l hl => ?_⟩
          have u1 : Sub F (upd H p (.lst [.int (t.c + 1), .int t.r])) := subP u
          have u2 : Sub F (upd (upd H p (.lst [.int (t.c + 1), .int t.r])) l (.lst [])) := u1.updN hl
          have lp : p ≠ l := by
            rintro rfl
            rw [upd_same] at hl; cases hl
          have hp2 : (upd (upd H p (.lst [.int (t.c + 1), .int t.r])) l (.lst [])) p = some (.lst [.int (t.c + 1), .int t.r]) := by rw [upd_ne lp, upd_same]
          have st2 : ∀ b o, H b = some o → b ≠ p → (upd (upd H p (.lst [.int (t.c + 1), .int t.r])) l (.lst [])) b = some o := fun b o e z => by
            have bl : b ≠ l := by
              rintro rfl
              rw [upd_ne z] at hl
              rw [hl] at e; cases e
            rw [upd_ne bl, upd_ne z]
            exact e
          have e2 : upd (upd H p (.lst [.int (t.c + 1), .int t.r])) l (.lst []) = upd (upd H p (.lst ([V.int t.c, V.int t.r].set 0 (V.int (t.c + 1))))) l (.lst []) := rfl
          generalize upd (upd H p (.lst [.int (t.c + 1), .int t.r])) l (.lst []) = H2 at u2 hp2 st2 e2
          have hl2 : H2 l = some (.lst []) := by rw [e2, upd_same]
          have S2 := hSx H2 u2
          show rEqD K (.ref a) (.ref l) (upd (upd H p (.lst ([V.int t.c, V.int t.r].set 0 (V.int (t.c + 1))))) l (.lst [])) _
          rw [← e2]
          refine ⟨_, .list [], seq_ints S2, .lst (SqL.of hl2) .nil, shaped_ints _, rfl, _, rfl, ?_⟩
          have lenS : LenV K (.ref a) H2 t.ns.length := .inl ⟨_, S2, by rw [List.length_map]⟩
          by_cases hns : t.ns = []
          · rw [hns]
            refine iteT ?_
            refine ⟨.int t.c, rfl, .int n, rfl, t.c, n, rfl, rfl, hn0, ?_⟩
            refine fin { t with c := t.c + 1 } _ _ ?_ rfl (by show 0 ≤ t.c + 1; omega) u2 hp2 st2
            unfold drawF
            rw [if_neg hr, if_pos hns]
          · have ev : PyData.eqv (.list (t.ns.map .int)) (.list []) = false := by
              cases q9 : t.ns with
              | nil => exact absurd q9 hns
              | cons x r => rfl
            rw [ev]
            refine iteF ?_
            have hlen : 0 < t.ns.length := List.length_pos_iff.mpr hns
            refine ⟨.int t.c, rfl, .ref a, rfl, .inl ⟨.ref a, _, rfl, lenS, t.c, _, rfl, rfl, _, rfl, ?_⟩⟩
            have c1018 : CPow 10 18 := ⟨by decide, by decide, by decide⟩
            have c1060 : CPow 10 60 := ⟨by decide, by decide, by decide⟩
            -- the mixed way
            have mixed : ¬ (t.c < t.ns.length ∧ 10 ^ 18 ≤ t.ns.getD t.c.toNat 0) → tSeq (tAsg (tOp rMod0 (tOp rAdd0 (tOp rAdd0 (tOp rMul0 (tOp (rIxL K) (tVar 0) (tOp rMod0 (tVar 4) (tLenS K))) (tI 1103515245)) (tOp rMul0 (tI 7919) (tVar 4))) (tI 12345)) (tI 2147483647)) (gName 5))
                (tRet (tOp rMod0 (tOp rMod0 (tOp rMod0 (tOp rPow0 (tVar 5) (tI 5)) (tI 2147483647)) (tI 999983)) (tVar 2))) { nx := fun _ H' => Q .non H', rt := Q } [some (V.ref a), some (V.ref p), some (V.int n), none, some (V.int t.c), none] H2 := by
              intro hnot
              have m0 : 0 ≤ t.c % (t.ns.length : Int) := Int.emod_nonneg _ (by omega)
              have m1 : t.c % (t.ns.length : Int) < t.ns.length := Int.emod_lt_of_pos _ (by omega)
              refine ⟨.ref a, rfl, .int t.c, rfl, .ref a, rfl, .inl ⟨.ref a, _, rfl, lenS, t.c, _, rfl, rfl, by omega, a, _, _, _, rfl, rfl, S2, at_ints m0 m1, ?_⟩⟩
              refine ⟨_, _, rfl, rfl, .inr ⟨by decide, by decide⟩, .int t.c, rfl, _, _, rfl, rfl, .inl ⟨by decide, by decide⟩, _, _, rfl, rfl, _, _, rfl, rfl, _, _, rfl, rfl, (by show (0 : Int) < 2147483647; decide), ?_⟩
              have k0 : 0 ≤ (t.ns.getD (t.c % (t.ns.length : Int)).toNat 0 * 1103515245 + 7919 * t.c + 12345) % 2147483647 := Int.emod_nonneg _ (by decide)
              have k1 : (t.ns.getD (t.c % (t.ns.length : Int)).toNat 0 * 1103515245 + 7919 * t.c + 12345) % 2147483647 < 2147483647 := Int.emod_lt_of_pos _ (by decide)
              have cp : CPow ((t.ns.getD (t.c % (t.ns.length : Int)).toNat 0 * 1103515245 + 7919 * t.c + 12345) % 2147483647) 5 := ⟨by decide, by decide, by omega⟩
              refine ⟨_, rfl, _, 5, rfl, rfl, cp, _, _, rfl, rfl, (by show (0 : Int) < 2147483647; decide), _, _, rfl, rfl, (by show (0 : Int) < 999983; decide), .int n, rfl, _, _, rfl, rfl, hn0, ?_⟩
              refine fin { t with c := t.c + 1 } _ _ ?_ rfl (by show 0 ≤ t.c + 1; omega) u2 hp2 st2
              unfold drawF
              rw [if_neg hr, if_neg hns, if_neg hnot]
              rfl
            by_cases h1 : t.c < t.ns.length
            · rw [decide_eq_true h1]
              refine iteT ?_
              refine ⟨.ref a, rfl, .int t.c, rfl, a, _, _, _, rfl, rfl, S2, at_ints j3 h1, 10, 18, rfl, rfl, c1018, _, _, rfl, rfl, _, rfl, ?_⟩
              by_cases h2 : (10 ^ 18 : Int) ≤ t.ns.getD t.c.toNat 0
              · have h2' : (10 : Int) ^ (18 : Int).toNat ≤ t.ns.getD t.c.toNat 0 := h2
                rw [decide_eq_true h2']
                refine iteT ?_
                refine ⟨.ref a, rfl, .int t.c, rfl, a, _, _, _, rfl, rfl, S2, at_ints j3 h1, .int n, rfl, _, _, rfl, rfl, dn _, 10, 60, rfl, rfl, c1060, 10, 60, rfl, rfl, c1060, _, _, rfl, rfl, ?_, _, _, rfl, rfl, (by show (0 : Int) < 10 ^ (60 : Int).toNat * 10 ^ (60 : Int).toNat; decide), ?_⟩
                · show ((10 : Int) ^ (60 : Int).toNat).natAbs.log2 + ((10 : Int) ^ (60 : Int).toNat).natAbs.log2 < 1000000
                  decide
                refine ⟨.ref p, rfl, p, _, 1, 1, rfl, rfl, hp2, rfl, ?_⟩
                have u3 : Sub F (upd H2 p (.lst [.int (t.c + 1), .int (t.ns.getD t.c.toNat 0 / n % (10 ^ 60 * 10 ^ 60))])) := subP u2
                refine ⟨.ref a, rfl, .int t.c, rfl, a, _, _, _, rfl, rfl, hSx _ u3, at_ints j3 h1, .int n, rfl, _, _, rfl, rfl, hn0, ?_⟩
                refine fin { t with c := t.c + 1, r := t.ns.getD t.c.toNat 0 / n % (10 ^ 60 * 10 ^ 60) } _ _ ?_ rfl (by show 0 ≤ t.c + 1; omega) u3 upd_same fun b o e z => by rw [upd_ne z]; exact st2 b o e z
                unfold drawF
                rw [if_neg hr, if_neg hns, if_pos ⟨h1, h2⟩]
              · have h2' : ¬ ((10 : Int) ^ (18 : Int).toNat ≤ t.ns.getD t.c.toNat 0) := h2
                rw [decide_eq_false h2']
                exact iteF (mixed fun z => h2 z.2)
            · rw [decide_eq_false h1]
              exact iteF (iteF (mixed fun z => h1 z.1))
      | [], r => exact r.elim
      | [_], r => exact r.2.elim
      | [_, _], r => exact r.2.2.elim
      | _ :: _ :: _ :: _ :: _, r => exact r.2.2.2.elim
  · rw [e] at q; exact q.elim
end Pm

set_option Elab.async false
set_option linter.all false
set_option maxRecDepth 100000
/-! Defs of the module by their standing. -/
namespace Pm
open PySem L2 RZ

/-- a def of the module as it stands -/
def Std (K : PySem.W.Frag) (mg : Str → Option Value) (x : Str) (st : Stmt) (ps : List Str) : Prop := ∃ (f : Addr) (fd : FuncData), Fun K x x st f fd ∧ mg x = some (.ref f) ∧ Binds K fd ps []
def natOf {T : Type} (s : S T) (i : Nat) : Nat := match s.env[i]? with
  | some (.fz (.int n)) => n.natAbs + 1
  | _ => 0
section
variable {P : Program} {w : World} {K : PySem.W.Frag} {mg : Str → Option Value} {base : Heap} {cls : Nat → Addr}
theorem okD {x : Str} {st : Stmt} {N ps : List Str} {k : Nat} {m : M Unit Out} {g : List D → Rp} (h : Std K mg x st ps) (S : FnScope N ps (defScope st)) (hg : g = fnP ps.length N.length m)
    (hbody : ∀ (f : Addr) (cdv : Value) (A : Around) (outer : List Env) (s : Shared) (H : Hp) (E : XK), Room k (A.deeper (PyProof.Rows.envOfC x (defScope st) s.heap.objs.size f cdv)) →
      ∃ t, PSs (cxOf (L2.CX P w) P w K mg base N x (defScope st) f cdv A outer s H E) (defBody st) t ∧ Sb (CU K cls) (WofE E) t m) : DefP P w K mg base cls x (k + 1) ps g := by
  obtain ⟨f, fd, F, hm, hb⟩ := h
  subst hg
  exact ⟨f, fd, okP F S (hbody f), hm, F.kp, hb⟩
theorem okDT {x : Str} {st : Stmt} {N ps : List Str} {k : Nat} {m : M Town Out} {g : List Slot → Town → Rt Town} (h : Std K mg x st ps) (S : FnScope N ps (defScope st)) (hg : g = fnT ps.length N.length m)
    (hbody : ∀ (f : Addr) (cdv : Value) (A : Around) (outer : List Env) (s : Shared) (H : Hp) (E : XK), Room k (A.deeper (PyProof.Rows.envOfC x (defScope st) s.heap.objs.size f cdv)) →
      ∃ t, PSs (cxOf (L2.CX P w) P w K mg base N x (defScope st) f cdv A outer s H E) (defBody st) t ∧ ∀ C, CTs K cls C → Sb C (WofE E) t m) : DefX P w K mg base x (k + 1) ps (spX (CTs K cls) g) := by
  obtain ⟨f, fd, F, hm, hb⟩ := h
  subst hg
  exact ⟨f, fd, okT F S (hbody f), hm, F.kp, hb⟩
theorem okDraw {x : Str} {st : Stmt} {ps : List Str} (h : Std K mg x st ps) (S : FnScope ["_law_script", "_law_town", "_law_many", "_law_one", "_law_at", "_law_mixed"] ps (defScope st)) (hps : ps.length = 3)
    (hbody : ∀ (f : Addr) (cdv : Value) (A : Around) (outer : List Env) (s : Shared) (H : Hp) (E : XK), Room 0 (A.deeper (PyProof.Rows.envOfC x (defScope st) s.heap.objs.size f cdv)) →
      PSs (cxOf (L2.CX P w) P w K mg base ["_law_script", "_law_town", "_law_many", "_law_one", "_law_at", "_law_mixed"] x (defScope st) f cdv A outer s H E) (defBody st) (tDraw K)) : DefX P w K mg base x 1 ps (spX (CTs K cls) gDraw) := by
  obtain ⟨f, fd, F, hm, hb⟩ := h
  refine ⟨f, fd, F.okX S (fun vs H Q E h => ?_) (fun cdv A outer s H vs Q E hr h => ⟨_, hbody f cdv A outer s H E hr, draw_reads h⟩), hm, F.kp, hb⟩
  obtain ⟨C, hC, F1, xs, t, u, j, fp, r, q⟩ := h
  rcases gDraw_inv xs t with ⟨n, rfl, _⟩ | e
  · rw [hps]; exact r.length
  · rw [e] at q; exact q.elim
end
/-- len of the script -/
theorem pe_lenS {X : Cx} {p pos pos2 : Pos} (h1 : X.mg "len" = none) (h2 : X.N[0]? = some ("_law_script" : Str)) (h3 : Vis X.env.scope "_law_script") (h4 : Gl X "len") (h5 : starEach [.Name "_law_script" pos2] X.env = (false, eval (.Name "_law_script" pos2) X.env) :: starEach [] X.env) :
    PE X (.Call (.Name "len" p) [.Name "_law_script" pos2] [] pos) (tLenS X.K) := pe_callB cr_len h4 h1 PySem.boot_len (pa_cons (pe_var h2 h3) pa_nil h5) (by decide) (by decide) h5 (by rfl)
end Pm

set_option Elab.async false
set_option linter.all false
set_option maxRecDepth 100000
/-! Dicts: displays, get, d[k] = v. -/
namespace Pm
open PySem L2 RZ

def mPairs {T : Type} : List (M T D × M T D) → M T (List (D × D))
  | [] => mRet []
  | (fk, fv) :: r => mBind fk fun k => mBind fv fun v => mBind (mPairs r) fun ps => mRet ((k, v) :: ps)
def mergeD (acc : List (D × D)) : List (D × D) → Option (List (D × D))
  | [] => some acc
  | (k, v) :: r => match keyOf k with
    | some k' => mergeD (putD acc k' v) r
    | none => none
def mDisp {T : Type} (fs : List (M T D × M T D)) : M T Slot := mBind (mPairs fs) fun ps => mLift (if ps.length ≤ 15 then (mergeD [] ps).map .od else none)
inductive RepPs (K : PySem.W.Frag) (F : Hp) : List (V × V) → List (D × D) → Prop
  | nil : RepPs K F [] []
  | cons {x y : V} {a b : D} {vs : List (V × V)} {ds : List (D × D)} : Rep K F x a → Rep K F y b → RepPs K F vs ds → RepPs K F ((x, y) :: vs) ((a, b) :: ds)
theorem merge_rep {K : PySem.W.Frag} {F : Hp} : ∀ {vs : List (V × V)} {ps : List (D × D)}, RepPs K F vs ps → ∀ {ks : List (Key × V)} {acc r : List (D × D)}, RepKV K F ks acc → mergeD acc ps = some r →
    ∃ kvs : List (Key × V), vs = kvs.map (fun kv => (kV kv.1, kv.2)) ∧ kvs.length = ps.length ∧ RepKV K F (mergeK ks kvs) r
  | _, _, .nil, ks, acc, r, h, e => by cases e; exact ⟨[], rfl, rfl, h⟩
  | _, _, .cons (a := a) (b := b) (ds := ds) hx hy hr, ks, acc, r, h, e => by
    unfold mergeD at e
    cases q : keyOf a with
    | none => rw [q] at e; cases e
    | some k =>
      rw [q] at e
      obtain ⟨ex, _⟩ := keyOf_rep hx q
      obtain ⟨kvs, e1, e2, e3⟩ := merge_rep hr (h.put (k := k) hy) e
      refine ⟨(k, _) :: kvs, ?_, congrArg Nat.succ e2, e3⟩
      rw [e1, ex]; rfl
section
variable {T : Type} {C : Ct T} {W : WX} {F0 H0 F F1 H : Hp} {L : Nat → Option Addr} {s : S T} {σ : L2.St} {α β : Type}
def Sps (C : Ct T) (W : WX) (trs : List (TE × TE)) (fs : List (M T D × M T D)) : Prop := ∀ F0 H0 L s σ F H (Q : List (V × V) → Hp → Prop), Good C F0 H0 L s σ F H → Po C W F0 H0 L F σ (fun ps _ F' H' => ∀ vs, RepPs C.K F' vs ps → Q vs H') (mPairs fs s) → tPairs trs σ H Q
theorem RepPs.mono {K : PySem.W.Frag} {F F' : Hp} (e : Same F F') {vs : List (V × V)} {ps : List (D × D)} (h : RepPs K F vs ps) : RepPs K F' vs ps := by
  induction h with
  | nil => exact .nil
  | cons hx hy _ ih => exact .cons (hx.mono e) (hy.mono e) ih
theorem sps_nil : Sps C W [] [] := fun F0 H0 L s σ F H Q g h => po_ret h g _ .nil
theorem sps_cons {tk tv : TE} {fk fv : M T D} {trs : List (TE × TE)} {fs : List (M T D × M T D)} (hk : Sv C W tk fk) (hv : Sv C W tv fv) (hr : Sps C W trs fs) : Sps C W ((tk, tv) :: trs) ((fk, fv) :: fs) := by
  intro F0 H0 L s σ F H Q g h
  refine hk _ _ _ _ _ _ _ _ g (po_imp (po_bind h) fun a s1 F1 H1 g1 e1 h1 x rx => ?_)
  refine hv _ _ _ _ _ _ _ _ g1 (po_imp (po_bind h1) fun b s2 F2 H2 g2 e2 h2 y ry => ?_)
  refine hr _ _ _ _ _ _ _ _ g2 (po_imp (po_bind h2) fun ps s3 F3 H3 g3 e3 h3 vs rs => ?_)
  exact po_ret h3 g3 _ (.cons ((rx.mono e2).mono e3) (ry.mono e3) rs)
theorem se_disp {trs : List (TE × TE)} {fs : List (M T D × M T D)} (h : Sps C W trs fs) : Se C W (tDisp trs) (mDisp fs) := by
  intro F0 H0 L s σ F H Q g q p hp
  have g1 := g.alloc (o := .dK []) hp
  have sv : SlotV C H0 s σ F (upd H p (.dK [])) (.ref p) (.od []) := ⟨p, [], rfl, Tmp.fresh g hp, upd_same, .nil⟩
  obtain ⟨H2, g2, k1, k2⟩ := hold g1 sv
  refine h _ _ _ _ _ _ _ _ g2 (po_imp (po_hold (po_bind q) fun s' F' H' g' e' => (k1 s' F' H' g' e').1) fun ps s3 F3 H3 g3 e3 h3 vs rs => ?_)
  obtain ⟨g4, p', ks', ep, t4, hp4, r4⟩ := k1 s3 F3 H3 g3 e3
  cases ep
  cases r4
  obtain ⟨x, q2, h4⟩ := po_lift h3
  by_cases hl : ps.length ≤ 15
  · rw [if_pos hl] at q2
    cases q3 : mergeD [] ps with
    | none => rw [q3] at q2; cases q2
    | some r =>
      rw [q3] at q2
      cases q2
      obtain ⟨kvs, e1, e2, e5⟩ := merge_rep rs (.nil) q3
      exact ⟨hp4, kvs, e1, by rw [e2]; exact hl, po_ret h4 (g4.updTmp t4) _ ⟨p, _, rfl, ⟨t4.f, t4.h0, t4.no⟩, upd_same, e5⟩⟩
  · rw [if_neg hl] at q2; cases q2
theorem se_dnew : Se C W tDNewK (mRet (.od [])) := by
  intro F0 H0 L s σ F H Q g q p hp
  exact po_ret q (g.alloc (o := .dK []) hp) _ ⟨p, [], rfl, Tmp.fresh g hp, upd_same, .nil⟩
/-- d.get(k, x) -/
def asDict : D → Option (List (D × D))
  | .dict kvs => some kvs
  | _ => none
def getOr (kvs : List (D × D)) (k x : D) : Option D := match keyOf k with
  | some k' => match valD kvs k' with
    | some d => some d
    | none => some x
  | none => none
def mGet {T : Type} (fa fk fx : M T D) : M T D := mBind fa fun a => mBind (mLift (asDict a)) fun kvs => mBind fk fun k => mBind fx fun x => mLift (getOr kvs k x)
def mGetP {T : Type} (i : Nat) (fk fx : M T D) : M T D := mBind (slotD i) fun a => mBind (mLift (asDict a)) fun _ => mBind fk fun k => mBind fx fun x => mBind (slotD i) fun a => mBind (mLift (asDict a)) fun kvs => mLift (getOr kvs k x)
theorem get_rep {F H : Hp} {p : Addr} {ks : List (Key × V)} {kvs : List (D × D)} {y z : V} {k x : D} {Q : VK} (hp : Rd H p (.dK ks)) (r : RepKV C.K F ks kvs) (ry : Rep C.K F y k) (rz : Rep C.K F z x) {d : D} (q : getOr kvs k x = some d) (h : ∀ v, Rep C.K F v d → Q v H) :
    ∃ o, DGet H p y o ∧ Q (o.getD z) H := by
  unfold getOr at q
  cases q1 : keyOf k with
  | none => rw [q1] at q; cases q
  | some k' =>
    rw [q1] at q
    dsimp only at q
    obtain ⟨ey, _⟩ := keyOf_rep ry q1
    refine ⟨valV ks k', .inl ⟨ks, k', hp, ey, rfl⟩, ?_⟩
    rcases r.val k' with ⟨z1, z2⟩ | ⟨d', w, z1, z2, rw'⟩
    · rw [z1] at q; cases q
      rw [z2]; exact h _ rz
    · rw [z1] at q; cases q
      rw [z2]; exact h _ rw'
theorem sv_get {ta tk tx : TE} {fa fk fx : M T D} (ha : Sv C W ta fa) (hk : Sv C W tk fk) (hx : Sv C W tx fx) : Sv C W (tDGet2 ta tk tx) (mGet fa fk fx) := by
  intro F0 H0 L s σ F H Q g h
  refine ha _ _ _ _ _ _ _ _ g (po_imp (po_bind h) fun a s1 F1 H1 g1 e1 h1 v rv => ?_)
  obtain ⟨kvs, q0, h1⟩ := po_lift (po_bind h1)
  have h1 := po_ret h1 g1
  cases rv with
  | dic hp r =>
    cases q0
    rename_i p ks
    refine ⟨p, rfl, .inl ⟨ks, g1.sub.dic hp⟩, ?_⟩
    refine hk _ _ _ _ _ _ _ _ g1 (po_imp (po_bind h1) fun k s2 F2 H2 g2 e2 h2 y ry => ?_)
    refine hx _ _ _ _ _ _ _ _ g2 (po_imp (po_bind h2) fun x s3 F3 H3 g3 e3 h3 z rz => ?_)
    obtain ⟨d, q, h4⟩ := po_lift h3
    exact get_rep (g3.sub.dic (e3 _ _ (e2 _ _ hp))) ((r.mono e2).mono e3) (ry.mono e3) rz q (po_ret h4 g3)
  | _ => cases q0
theorem sv_getP {i : Nat} {tk tx : TE} {fk fx : M T D} (hk : Sv C W tk fk) (hx : Sv C W tx fx) : Sv C W (tDGet2 (tVar i) tk tx) (mGetP i fk fx) := by
  intro F0 H0 L s σ F H Q g h
  obtain ⟨x, a, hx0, hp0, h⟩ := po_slotD (po_bind h)
  have h := po_ret h g
  obtain ⟨kvs, q0, h⟩ := po_lift (po_bind h)
  have h := po_ret h g
  obtain ⟨v, hv, rv⟩ := g.peek hx0 hp0
  refine ⟨v, hv, ?_⟩
  have dic : ∃ p ks, v = .ref p ∧ Rd H p (.dK ks) := by
    rcases rv with rv | ⟨p, xs, ds, rfl, rfl, hp, r⟩ | ⟨p, xs, ds, rfl, rfl, hp, r⟩
    · cases rv with
      | dic hp r => exact ⟨_, _, rfl, g.sub.dic hp⟩
      | _ => cases q0
    · cases q0
    · exact ⟨p, xs, rfl, .inl hp⟩
  obtain ⟨p, ks, rfl, hR⟩ := dic
  refine ⟨p, rfl, .inl ⟨ks, hR⟩, ?_⟩
  refine hk _ _ _ _ _ _ _ _ g (po_imp (po_bind h) fun k s2 F2 H2 g2 e2 h2 y ry => ?_)
  refine hx _ _ _ _ _ _ _ _ g2 (po_imp (po_bind h2) fun x s3 F3 H3 g3 e3 h3 z rz => ?_)
  obtain ⟨x3, a3, hx3, hp3, h3⟩ := po_slotD (po_bind h3)
  have h3 := po_ret h3 g3
  obtain ⟨kvs3, q3, h3⟩ := po_lift (po_bind h3)
  have h3 := po_ret h3 g3
  obtain ⟨d, q, h4⟩ := po_lift h3
  obtain ⟨v3, hv3, rv3⟩ := g3.peek hx3 hp3
  rw [hv] at hv3
  cases hv3
  have dic3 : ∃ ks, Rd H3 p (.dK ks) ∧ RepKV C.K F3 ks kvs3 := by
    rcases rv3 with rv | ⟨p', xs, ds, e, rfl, hp, r⟩ | ⟨p', xs, ds, e, rfl, hp, r⟩
    · cases rv with
      | dic hp r => cases q3; exact ⟨_, g3.sub.dic hp, r⟩
      | _ => cases q3
    · cases q3
    · cases q3; cases e; exact ⟨xs, .inl hp, r⟩
  obtain ⟨ks3, hR3, r3⟩ := dic3
  exact get_rep hR3 r3 (ry.mono e3) rz q (po_ret h4 g3)
/-- d[k] = v, d a slot's own -/
def mDPut {T : Type} (i : Nat) (fk fv : M T D) : M T Out := mBind fv fun v => fun s => match s.env[i]? with
  | some (.od _) => mBind fk (fun k s1 => match s1.env[i]?, keyOf k with
    | some (.od kvs), some k' => if kvs.length < lim then .ok .nx ⟨s1.env.set i (.od (putD kvs k' v)), s1.t⟩ else .stuck
    | _, _ => .stuck) s
  | _ => .stuck
theorem sb_dput {i : Nat} {tk tv : TE} {fk fv : M T D} (hk : Sv C W tk fk) (hv : Sv C W tv fv) : Sb C W (sDPut (tVar i) tk tv) (mDPut i fk fv) := by
  intro F0 H0 L s σ F H E g h
  refine hv _ _ _ _ _ _ _ _ g (po_imp (pos_bind h) fun v s1 F1 H1 g1 e1 h1 y ry => ?_)
  cases q0 : s1.env[i]? with
  | none => rw [q0] at h1; exact h1.elim
  | some x =>
    rw [q0] at h1
    cases x with
    | od kvs =>
      simp only at h1
      obtain ⟨p, vs, z1, z2, z3, z4, z5⟩ := g1.slots i _ q0
      refine ⟨.ref p, z1, ?_⟩
      refine hk _ _ _ _ _ _ _ _ g1 (po_imp (pos_bind h1) fun k s2 F2 H2 g2 e2 h2 z rz => ?_)
      cases q1 : s2.env[i]? with
      | none => rw [q1] at h2; exact h2.elim
      | some y2 =>
        cases q2 : keyOf k with
        | none => rw [q1, q2] at h2; cases y2 <;> exact h2.elim
        | some k' =>
          rw [q1, q2] at h2
          cases y2 with
          | od kvs2 =>
            simp only at h2
            by_cases hl : kvs2.length < lim
            · rw [if_pos hl] at h2
              obtain ⟨p', ws, w1, w2, w3, w4, w5⟩ := g2.slots i _ q1
              rw [z1] at w1; cases w1
              obtain ⟨ey, _⟩ := keyOf_rep rz q2
              refine ⟨p, _, rfl, .inl ⟨ws, k', w4, ey, by rw [w5.length]; exact Nat.lt_of_lt_of_le hl (lim_ok (Nat.le_refl _)), rfl⟩, ?_⟩
              exact h2 _ _ _ (g2.mutate (o := HO.dK (putK ws k' y)) q1 rfl z1 (y := .od (putD kvs2 k' v)) ⟨p, _, rfl, w2, w3, upd_same, w5.put (ry.mono e2)⟩ w2 w3 ⟨_, w4⟩) (Same.refl _)
            · rw [if_neg hl] at h2; exact h2.elim
          | _ => exact h2.elim
    | _ => exact h1.elim
end
structure DPs {T : Type} (X : Cx) (C : Ct T) (W : WX) (pos : Pos) (keys : List (Option Expr)) (values : List Expr) (trs : List (TE × TE)) (fs : List (M T D × M T D)) : Prop where
  pe : PPs X pos keys values trs
  sv : Sps C W trs fs
section
variable {T : Type} {X : Cx} {C : Ct T} {W : WX} {k : Nat} {cls : Nat → Addr} {K : PySem.W.Frag} {a b c e : Expr} {es : List Expr} {pos : Pos} {ta tb tc : TE} {fa fb fc : M T D}
theorem dps_nil : DPs X C W pos [] [] [] [] := ⟨pps_nil, sps_nil⟩
theorem dps_cons {ks : List (Option Expr)} {vs : List Expr} {trs : List (TE × TE)} {fs : List (M T D × M T D)} (ha : DV X C W a ta fa) (hb : DV X C W b tb fb) (hr : DPs X C W pos ks vs trs fs) : DPs X C W pos (some a :: ks) (b :: vs) ((ta, tb) :: trs) ((fa, fb) :: fs) := ⟨pps_cons ha.pe hb.pe hr.pe, sps_cons ha.sv hb.sv hr.sv⟩
theorem de_disp {ks : List (Option Expr)} {vs : List Expr} {trs : List (TE × TE)} {fs : List (M T D × M T D)} (h : DPs X C W pos ks vs trs fs) (hall : ks.all (·.isSome) = true := by rfl) (hl : ks.length = vs.length := by rfl) (h0 : ks ≠ [] := by exact List.cons_ne_nil _ _) (h15 : ks.length ≤ 15 := by decide) : DE X C W (.Dict ks vs pos) (tDisp trs) (mDisp fs) := ⟨pe_disp h.pe hall hl h0 h15, se_disp h.sv⟩
theorem de_dnew : DE X C W (.Dict [] [] pos) tDNewK (mRet (.od [])) := ⟨pe_dnewK, se_dnew⟩
theorem dv_get {apos cpos : Pos} (q : Cur X C W k cls K) (ha : DV X C W a ta fa) (hb : DV X C W b tb fb) (hc : DV X C W c tc fc) (m : M2 X a "get" apos b c cpos := by exact ⟨rfl, rfl, rfl, rfl⟩) : DV X C W (.Call (.Attribute a "get" apos) [b, c] [] cpos) (tDGet2 ta tb tc) (mGet fa fb fc) :=
  ⟨pe_dget2 (by have := q.un; omega) ha.pe hb.pe hc.pe m, sv_get ha.sv hb.sv hc.sv⟩
theorem dv_getP {apos cpos : Pos} (q : Cur X C W k cls K) (i : Nat) (ha : PE X a (tVar i)) (hb : DV X C W b tb fb) (hc : DV X C W c tc fc) (m : M2 X a "get" apos b c cpos := by exact ⟨rfl, rfl, rfl, rfl⟩) : DV X C W (.Call (.Attribute a "get" apos) [b, c] [] cpos) (tDGet2 (tVar i) tb tc) (mGetP i fb fc) :=
  ⟨pe_dget2 (by have := q.un; omega) ha hb.pe hc.pe m, sv_getP hb.sv hc.sv⟩
theorem ds_dput {pos' : Pos} (q : Cur X C W k cls K) (i : Nat) (ha : PE X a (tVar i)) (hb : DV X C W b tb fb) (hc : DV X C W c tc fc) (hs : swapsWith c (some (.Subscript a b pos')) pos.line X.env = pure false := by rfl) : DS X C W (.Assign [.Subscript a b pos'] c pos) (sDPut (tVar i) tb tc) (mDPut i fb fc) :=
  ⟨ps_dput (by have := q.un; omega) ha hb.pe hc.pe hs, sb_dput hb.sv hc.sv⟩
end
end Pm

set_option Elab.async false
set_option linter.all false
set_option maxRecDepth 100000
/-! Pure evaluation. -/
namespace Pm
open PySem L2 RZ
theorem mulOk_of {i j : Int} (hi : i.natAbs < 2 ^ 64) (hj : j.natAbs < 2 ^ 64) : mulOk i j = true := by
  unfold mulOk
  have k : ∀ n : Nat, n < 2 ^ 64 → n.log2 < 65 := fun n h => by
    by_cases h0 : n = 0
    · subst h0; decide
    · exact Nat.lt_succ_of_lt ((Nat.log2_lt h0).mpr h)
  have := k _ hi
  have := k _ hj
  exact decide_eq_true (by omega)
section
variable {T α β : Type}
theorem mBind_ap (m : M T α) (f : α → M T β) (s : S T) : mBind m f s = (match m s with
  | .ok a s' => f a s'
  | .exc c s' => .exc c s'
  | .stuck => .stuck) := rfl
theorem mRet_ap (a : α) (s : S T) : mRet a s = .ok a s := rfl
theorem mLift_ap (o : Option α) (s : S T) : mLift o s = (match o with
  | some a => .ok a s
  | none => .stuck) := rfl
end
theorem atI_nat {α : Type} (xs : List α) (n : Nat) : atI xs (@OfNat.ofNat Int n (@instOfNat n)) = xs[n]? := by
  unfold atI ixN
  have e : (@OfNat.ofNat Int n (@instOfNat n)) = ((n : Nat) : Int) := rfl
  rw [e, if_pos (Int.natCast_nonneg n)]
  by_cases h : n < xs.length
  · rw [if_pos (by omega)]; simp
  · rw [if_neg (by omega)]; simp at h; simp [h]
theorem atI_0 {α : Type} (xs : List α) : atI xs 0 = xs[0]? := atI_nat xs 0
theorem atI_1 {α : Type} (xs : List α) : atI xs 1 = xs[1]? := atI_nat xs 1
theorem atI_2 {α : Type} (xs : List α) : atI xs 2 = xs[2]? := atI_nat xs 2
theorem atI_3 {α : Type} (xs : List α) : atI xs 3 = xs[3]? := atI_nat xs 3
theorem atI_4 {α : Type} (xs : List α) : atI xs 4 = xs[4]? := atI_nat xs 4
theorem atI_5 {α : Type} (xs : List α) : atI xs 5 = xs[5]? := atI_nat xs 5
theorem atI_6 {α : Type} (xs : List α) : atI xs 6 = xs[6]? := atI_nat xs 6
theorem atI_7 {α : Type} (xs : List α) : atI xs 7 = xs[7]? := atI_nat xs 7
theorem atI_8 {α : Type} (xs : List α) : atI xs 8 = xs[8]? := atI_nat xs 8
theorem atI_9 {α : Type} (xs : List α) : atI xs 9 = xs[9]? := atI_nat xs 9
theorem opEq_of {a b : D} {c : Bool} (h1 : SeqAt.shaped a = true) (h2 : SeqAt.shaped b = true) (h3 : PyData.eqv a b = c) : opEq a b = some (.bool c) := by
  unfold opEq; rw [h1, h2, h3]; rfl
theorem opNe_of {a b : D} {c : Bool} (h1 : SeqAt.shaped a = true) (h2 : SeqAt.shaped b = true) (h3 : PyData.eqv a b = c) : opNe a b = some (.bool (!c)) := by
  unfold opNe; rw [h1, h2, h3]; rfl
theorem opEq_ii (a b : Int) : opEq (.int a) (.int b) = some (.bool (decide (a = b))) := opEq_of rfl rfl rfl
theorem opNe_ii (a b : Int) : opNe (.int a) (.int b) = some (.bool (!decide (a = b))) := opNe_of rfl rfl rfl
theorem opEq_bb (a b : Bool) : opEq (.bool a) (.bool b) = some (.bool (a == b)) := opEq_of rfl rfl rfl
theorem opNe_bb (a b : Bool) : opNe (.bool a) (.bool b) = some (.bool (a != b)) := opNe_of rfl rfl rfl
theorem drawT {t : Town} {n : Int} (h0 : 0 < n) (h1 : n < 1000000) : ∃ d t', gDraw [.pt 0, .pt 1, .fz (.int n)] t = .ok (.int d) t' ∧ 0 ≤ d ∧ d < n := ⟨(drawF t n).1, (drawF t n).2, by show (if 0 < n ∧ n < 1000000 then _ else _) = _; rw [if_pos ⟨h0, h1⟩], draw_lt t n h0⟩
theorem mSeq_ap {T : Type} (f g : M T Out) (s : S T) : mSeq f g s = (match f s with
  | .ok .nx s' => g s'
  | .ok o s' => .ok o s'
  | .exc c s' => .exc c s'
  | .stuck => .stuck) := by
  unfold mSeq mBind
  cases f s with
  | ok o s' => cases o <;> rfl
  | exc c s' => rfl
  | stuck => rfl
theorem seq_nx {T : Type} {f g : M T Out} {s s' : S T} (h : f s = .ok .nx s') : mSeq f g s = g s' := by rw [mSeq_ap, h]
mutual
def beqD : D → D → Bool
  | .none, .none => true
  | .bool a, .bool b => a == b
  | .int a, .int b => a == b
  | .str a, .str b => decide (a = b)
  | .list a, .list b => beqDs a b
  | .tuple a, .tuple b => beqDs a b
  | .dict a, .dict b => beqKV a b
  | _, _ => false
def beqDs : List D → List D → Bool
  | [], [] => true
  | a :: as, b :: bs => beqD a b && beqDs as bs
  | _, _ => false
def beqKV : List (D × D) → List (D × D) → Bool
  | [], [] => true
  | (a, x) :: as, (b, y) :: bs => (beqD a b && beqD x y) && beqKV as bs
  | _, _ => false
end
mutual
theorem beqD_eq : ∀ {a b : D}, beqD a b = true → a = b
  | .none, b, h => by cases b <;> simp [beqD] at h ⊢
  | .bool a, b, h => by cases b <;> simp [beqD] at h ⊢; exact h
  | .int a, b, h => by cases b <;> simp [beqD] at h ⊢; exact h
  | .str a, b, h => by cases b <;> simp [beqD] at h ⊢; exact h
  | .list a, b, h => by cases b <;> simp [beqD] at h ⊢; exact beqDs_eq h
  | .tuple a, b, h => by cases b <;> simp [beqD] at h ⊢; exact beqDs_eq h
  | .dict a, b, h => by cases b <;> simp [beqD] at h ⊢; exact beqKV_eq h
theorem beqDs_eq : ∀ {a b : List D}, beqDs a b = true → a = b
  | [], b, h => by cases b <;> simp [beqDs] at h ⊢
  | a :: as, b, h => by cases b <;> simp [beqDs] at h ⊢; exact ⟨beqD_eq h.1, beqDs_eq h.2⟩
theorem beqKV_eq : ∀ {a b : List (D × D)}, beqKV a b = true → a = b
  | [], b, h => by cases b <;> simp [beqKV] at h ⊢
  | (a, x) :: as, b, h => by
    cases b with
    | nil => simp [beqKV] at h
    | cons p bs =>
      obtain ⟨b, y⟩ := p
      simp [beqKV] at h
      rw [beqD_eq h.1.1, beqD_eq h.1.2, beqKV_eq h.2]
end
def okIs : Rp → D → Bool
  | .ok d, e => beqD d e
  | _, _ => false
theorem ok_by {r : Rp} {d : D} (h : okIs r d = true) : r = .ok d := by
  cases r with
  | ok e => rw [beqD_eq h]
  | exc c => cases h
  | stuck => cases h
def optIs : Option D → D → Bool
  | some d, e => beqD d e
  | _, _ => false
theorem opt_by {r : Option D} {d : D} (h : optIs r d = true) : r = some d := by
  cases r with
  | some e => rw [beqD_eq h]
  | none => cases h
def optKV : Option (List (D × D)) → List (D × D) → Bool
  | some d, e => beqKV d e
  | _, _ => false
theorem kv_by {r : Option (List (D × D))} {d : List (D × D)} (h : optKV r d = true) : r = some d := by
  cases r with
  | some e => rw [beqKV_eq h]
  | none => cases h
end Pm

set_option Elab.async false
set_option linter.all false
set_option maxRecDepth 100000
/-! Lists' methods: extend, count, index. -/
namespace Pm
open PySem L2 RZ
def asL : D → Option (List D)
  | .list ds => some ds
  | _ => none
def mBmP {T : Type} (op : D → D → Option D) (i : Nat) (fb : M T D) : M T D := mBind (slotD i) fun a => mBind (mLift (asL a)) fun _ => mBind fb fun b => mBind (slotD i) fun a => mLift (op a b)
abbrev rCntF (K : PySem.W.Frag) : V → List V → Hp → VK → Prop := fun x xs H Q => ∃ (p : Addr) (ys : List V) (y : V), x = .ref p ∧ xs = [y] ∧ SqL K H p ys ∧ flatV y = true ∧ ys.all flatV = true ∧ Q (.int (ys.countP fun z => eqV z y : Nat)) H
open PySem.Spec PyProof.Rows in
theorem count_of {uy : Value} {y : V} : ∀ {ys : List V} {us : List Value}, Vals ys us → ys.all flatV = true → us.countP (eqU y) = ys.countP fun z => eqV z y
  | _, _, .nil, _ => rfl
  | z :: zs, u :: us, .cons r t, f => by
    rw [List.all_cons, Bool.and_eq_true] at f
    rw [List.countP_cons, List.countP_cons, count_of (uy := uy) t f.2, eqU_of r f.1]
open PySem.Spec PyProof.Rows in
theorem mt_countF {X : Cx} : MtR X "list.count" (rCntF X.K) := by
  intro pins s σ H x xs v us Q I rx rxs h
  obtain ⟨p, ys, y, rfl, rfl, hs, fy, fys, q⟩ := h
  cases rx
  obtain ⟨u, rfl, ru⟩ := rxs.one
  obtain ⟨its, rv, ⟨⟨cls, dd, data, sl⟩, n, ho, hc, hdn, hd⟩, hlen⟩ := I.list hs
  simp only at hc hd
  subst hc hd
  refine call_meets PySem.F.slot_list_count ⟨_, ho, rfl⟩ PySem.F.entry_list_count (PySem.F.args_list_count_2 _ _)
    (SeqAt.list_countAt p its.toArray n dd sl u (eqU y)) ⟨ho, fun u' hu' => mem_eqAt ru fy rv fys u' (by simpa using hu'), ?_⟩
  have ec : its.toArray.toList.countP (eqU y) = ys.countP fun z => eqV z y := count_of (uy := u) rv fys
  refine ⟨.int (ys.countP fun z => eqV z y : Nat), H, I.tok _, ⟨s.toks, ?_⟩, q⟩
  show Value.int ((its.toArray.toList.countP (eqU y) : Nat) : Int) s.toks = _
  rw [ec]
def opCount : D → D → Option D
  | .list ds, y => if flatD y && ds.all flatD then some (.int ((ds.map toV).countP fun z => eqV z (toV y) : Nat)) else none
  | _, _ => none
def opIndex : D → D → Option D
  | .list ds, y => if flatD y && ds.all flatD then ((ds.map toV).findIdx? fun z => eqV z (toV y)).map fun j => .int (j : Nat) else none
  | _, _ => none
section
variable {T : Type} {C : Ct T} {W : WX} {F0 H0 F F1 H : Hp} {L : Nat → Option Addr} {s : S T} {σ : L2.St} {α β : Type}
theorem rsh_list {x : V} {ds : List D} (g : Good C F0 H0 L s σ F H) (r : Rsh C.K F H x (.list ds)) : ∃ p vs, x = .ref p ∧ SqL C.K H p vs ∧ RepL C.K F vs ds := by
  rcases r with r | ⟨p, xs, ds', rfl, e, hp, r⟩ | ⟨p, xs, ds', rfl, e, hp, r⟩
  · cases r with
    | lst hx r => exact ⟨_, _, rfl, SqL.of (g.sub.lst hx), r⟩
  · cases e; exact ⟨p, xs, rfl, SqL.of hp, r⟩
  · cases e
theorem rw_count : Rw C (fun x y => rCntF C.K x [y]) opCount := by
  intro F0 H0 L s σ F H x y a b Q g rx ry h
  cases a with
  | list ds =>
    obtain ⟨p, vs, rfl, hs, r⟩ := rsh_list g rx
    dsimp only [opCount] at h
    by_cases hl : (flatD b && ds.all flatD) = true
    · rw [if_pos hl] at h
      rw [Bool.and_eq_true] at hl
      obtain ⟨e1, f1⟩ := rep_flat ry hl.1
      obtain ⟨e2, f2⟩ := rep_flats r hl.2
      refine ⟨p, vs, y, rfl, rfl, hs, f1, f2, ?_⟩
      rw [e1, e2]
      exact rv_end g h (.int _)
    · rw [if_neg hl] at h; exact h.elim
  | _ => exact h.elim
theorem rw_index : Rw C (fun x y => rIndex C.K x [y]) opIndex := by
  intro F0 H0 L s σ F H x y a b Q g rx ry h
  cases a with
  | list ds =>
    obtain ⟨p, vs, rfl, hs, r⟩ := rsh_list g rx
    dsimp only [opIndex] at h
    by_cases hl : (flatD b && ds.all flatD) = true
    · rw [if_pos hl] at h
      rw [Bool.and_eq_true] at hl
      obtain ⟨e1, f1⟩ := rep_flat ry hl.1
      obtain ⟨e2, f2⟩ := rep_flats r hl.2
      cases q : (ds.map toV).findIdx? fun z => eqV z (toV b) with
      | none => rw [q] at h; exact h.elim
      | some j =>
        rw [q] at h
        obtain ⟨hj, h1, h2⟩ := List.findIdx?_eq_some_iff_getElem.mp q
        refine ⟨p, vs, y, j, (ds.map toV)[j], rfl, rfl, hs, f1, f2, by rw [e2]; exact List.getElem?_eq_getElem hj, by rw [e1]; exact h1, fun m z' hm hz => ?_, rv_end g h (.int _)⟩
        rw [e2] at hz
        obtain ⟨hm2, hz2⟩ := List.getElem?_eq_some_iff.mp hz
        have := h2 m hm
        rw [hz2] at this
        rw [e1]
        simpa using this
    · rw [if_neg hl] at h; exact h.elim
  | _ => exact h.elim
theorem sv_bmP {r : V → List V → Hp → VK → Prop} {op : D → D → Option D} {tb : TE} {fb : M T D} {i : Nat} (hb : Sv C W tb fb) (hr : Rw C (fun x y => r x [y]) op) : Sv C W (tBM C.K "list" r (tVar i) (tCons tb tNil)) (mBmP op i fb) := by
  intro F0 H0 L s σ F H Q g h
  obtain ⟨x0, d0, hx0, hd0, h0⟩ := po_slotD (po_bind h)
  obtain ⟨ds0, q0, h00⟩ := po_lift (po_bind (po_ret h0 g))
  have h01 := po_ret h00 g
  obtain ⟨v, hv, rs0⟩ := g.peek hx0 hd0
  have el : d0 = .list ds0 := by cases d0 <;> cases q0; rfl
  rw [el] at rs0
  obtain ⟨p0, vs0, ep, hs0, _⟩ := rsh_list g rs0
  subst ep
  refine ⟨.ref p0, hv, .inl ⟨rfl, _, hs0⟩, hb _ _ _ _ _ _ _ _ g (po_imp (po_bind h01) fun b s1 F1 H1 g1 e1 h1 w rw' => ?_)⟩
  obtain ⟨x, d, hx, hd, h2⟩ := po_slotD (po_bind h1)
  obtain ⟨d', q, h4⟩ := po_lift (po_ret h2 g1)
  obtain ⟨v', hv', rs⟩ := g1.peek hx hd
  rw [hv] at hv'; cases hv'
  refine hr _ _ _ _ _ _ _ _ _ _ _ _ g1 rs rw' ?_
  rw [q]
  exact fun v' F' H' g' e' r' => h4 F' H' g' e' v' r'
/-- xs.extend(ys) -/
def mExtend {T : Type} (i : Nat) (fa : M T D) : M T D := fun s => match s.env[i]? with
  | some (.ol _) => mBind fa (fun d s1 => match s1.env[i]?, d with
    | some (.ol xs), .list ys => if xs.length + ys.length ≤ lim then .ok .none ⟨s1.env.set i (.ol (xs ++ ys)), s1.t⟩ else .stuck
    | _, _ => .stuck) s
  | _ => .stuck
theorem sv_extend {i : Nat} {ta : TE} {fa : M T D} (ha : Sv C W ta fa) : Sv C W (tBM C.K "list" rExtend (tVar i) (tCons ta tNil)) (mExtend i fa) := by
  intro F0 H0 L s σ F H Q g h
  unfold mExtend at h
  cases q0 : s.env[i]? with
  | none => rw [q0] at h; exact h.elim
  | some x =>
    rw [q0] at h
    cases x with
    | ol xs =>
      simp only at h
      obtain ⟨p, vs, h1, h2, h3, h4, h5⟩ := g.slots i _ q0
      refine ⟨.ref p, h1, .inl ⟨rfl, _, SqL.of h4⟩, ?_⟩
      refine ha _ _ _ _ _ _ _ _ g (po_imp (po_bind h) fun d s1 F1 H1 g1 e1 k1 v rv => ?_)
      cases q1 : s1.env[i]? with
      | none => rw [q1] at k1; exact k1.elim
      | some y =>
        rw [q1] at k1
        cases y with
        | ol ys =>
          cases rv with
          | lst hx rz =>
            rename_i b zs ds
            simp only at k1
            by_cases hl : ys.length + ds.length ≤ lim
            · rw [if_pos hl] at k1
              obtain ⟨p', ws, z1, z2, z3, z4, z5⟩ := g1.slots i _ q1
              rw [h1] at z1; cases z1
              refine ⟨p, b, ws, zs, rfl, rfl, z4, g1.sub.lst hx, ?_, ?_⟩
              · rw [z5.length, rz.length]; exact lim_ok hl
              · have g2 := g1.mutate (o := HO.lst (ws ++ zs)) q1 rfl h1 (y := .ol (ys ++ ds)) ⟨p, _, rfl, z2, z3, upd_same, z5.append rz⟩ z2 z3 ⟨_, z4⟩
                exact k1 _ _ g2 (Same.refl _) _ .non
            · rw [if_neg hl] at k1; exact k1.elim
          | _ => exact k1.elim
        | _ => cases d <;> exact k1.elim
    | _ => exact h.elim
end
section
variable {T : Type} {X : Cx} {C : Ct T} {W : WX} {k : Nat} {cls : Nat → Addr} {K : PySem.W.Frag} {a b c e : Expr} {es : List Expr} {pos : Pos} {ta tb tc : TE} {fa fb fc : M T D}
theorem dv_extend {bb : Bool} (q : CurB bb X C W k cls K) (i : Nat) {o : Expr} {apos cpos : Pos} (ho : PE X o (tVar i)) (ha : DV X C W a ta fa)
    (hbase : attributeBase o "extend" X.env (eval o X.env) = eval o X.env := by rfl)
    (hfew : ((backTo cpos (starEach [a] X.env)).all (fun x => !x.1) && (backToKw cpos (keywordEach [] X.env)).all (fun x => x.1.isSome)
      && decide ([a].length + ([] : List Keyword).length + (if ([] : List Keyword).isEmpty then 0 else 1) < 30)) = true := by rfl)
    (hline : (apos.endLine == cpos.line) = true := by rfl) (hs : starEach [a] X.env = (false, eval a X.env) :: starEach [] X.env := by rfl) (hplain : (backTo cpos (starEach [] X.env)).any (·.1) = false := by rfl) :
    DV X C W (.Call (.Attribute o "extend" apos) [a] [] cpos) (tBM K "list" rExtend (tVar i) (tCons ta tNil)) (mExtend i fa) :=
  ⟨by rw [← q.hX]; exact pe_bm PySem.F.plainAttrs_list PySem.F.slot_list_extend PySem.F.type_list_extend mt_extend ho (pa_cons ha.pe pa_nil hs) hbase hfew hline hs hplain, by rw [← q.hK]; exact sv_extend ha.sv⟩
theorem dv_countP {bb : Bool} (q : CurB bb X C W k cls K) (i : Nat) {o : Expr} {apos cpos : Pos} (ho : PE X o (tVar i)) (ha : DV X C W a ta fa)
    (hbase : attributeBase o "count" X.env (eval o X.env) = eval o X.env := by rfl)
    (hfew : ((backTo cpos (starEach [a] X.env)).all (fun x => !x.1) && (backToKw cpos (keywordEach [] X.env)).all (fun x => x.1.isSome)
      && decide ([a].length + ([] : List Keyword).length + (if ([] : List Keyword).isEmpty then 0 else 1) < 30)) = true := by rfl)
    (hline : (apos.endLine == cpos.line) = true := by rfl) (hs : starEach [a] X.env = (false, eval a X.env) :: starEach [] X.env := by rfl) (hplain : (backTo cpos (starEach [] X.env)).any (·.1) = false := by rfl) :
    DV X C W (.Call (.Attribute o "count" apos) [a] [] cpos) (tBM K "list" (rCntF K) (tVar i) (tCons ta tNil)) (mBmP opCount i fa) :=
  ⟨by rw [← q.hX]; exact pe_bm PySem.F.plainAttrs_list PySem.F.slot_list_count PySem.F.type_list_count mt_countF ho (pa_cons ha.pe pa_nil hs) hbase hfew hline hs hplain, by rw [← q.hK]; exact sv_bmP ha.sv rw_count⟩
theorem dv_indexP {bb : Bool} (q : CurB bb X C W k cls K) (i : Nat) {o : Expr} {apos cpos : Pos} (ho : PE X o (tVar i)) (ha : DV X C W a ta fa)
    (hbase : attributeBase o "index" X.env (eval o X.env) = eval o X.env := by rfl)
    (hfew : ((backTo cpos (starEach [a] X.env)).all (fun x => !x.1) && (backToKw cpos (keywordEach [] X.env)).all (fun x => x.1.isSome)
      && decide ([a].length + ([] : List Keyword).length + (if ([] : List Keyword).isEmpty then 0 else 1) < 30)) = true := by rfl)
    (hline : (apos.endLine == cpos.line) = true := by rfl) (hs : starEach [a] X.env = (false, eval a X.env) :: starEach [] X.env := by rfl) (hplain : (backTo cpos (starEach [] X.env)).any (·.1) = false := by rfl) :
    DV X C W (.Call (.Attribute o "index" apos) [a] [] cpos) (tBM K "list" (rIndex K) (tVar i) (tCons ta tNil)) (mBmP opIndex i fa) :=
  ⟨by rw [← q.hX]; exact pe_bm PySem.F.plainAttrs_list PySem.F.slot_list_index PySem.F.type_list_index mt_index ho (pa_cons ha.pe pa_nil hs) hbase hfew hline hs hplain, by rw [← q.hK]; exact sv_bmP ha.sv rw_index⟩
end
end Pm

set_option Elab.async false
set_option linter.all false
set_option maxRecDepth 100000
/-! A def that is handed the exception that is handled; try .. except X as e: return f(e). -/
namespace Pm
open PySem L2 RZ

/-- the exception of the code c stands at a -/
def CWh (K : PySem.W.Frag) (cls : Nat → Addr) (a : Addr) (c : Nat) : Ct Nat where
  ptr := fun _ => a
  fp := []
  J := fun t _ _ => t = c
  stab := fun _ _ _ _ _ h _ _ => h
  K := K
  cls := cls
structure FnW (P : Program) (w : World) (K : PySem.W.Frag) (mg : Str → Option Value) (base : Heap) (k : Nat) (f : Addr) (fd : FuncData) (ps : List Str) (pn : Addr × Obj) (sp : Sp) : Prop where
  len : ∀ vs H Q E, sp vs H Q E → vs.length = ps.length
  run : ∀ (A : Around) (fr : List Env) (s : Shared) (H : Hp) (as : Args) (us : List Value) (vs : List V) (Q : VK) (E : XK), L2H.RoomH k A → L2H.PinOk fr H s pn → Env0 P w K mg base A fr s H → BindsTo s fd as (ps.zip us) → Vals vs us → sp vs H Q E →
    codeAny (model P w) A (.call (.ref f) as) (CR (L2.CX P w) fr P w H s Q E) s
section
variable {P : Program} {w : World} {K : PySem.W.Frag} {mg : Str → Option Value} {base : Heap} {T : Type}
open PySem.Spec PyProof.Rows in
theorem okWh {Cs : Ct T → Prop} {x qual : Str} {st : Stmt} {f : Addr} {fd : FuncData} {N ps : List Str} {k : Nat} {m : M T Out} (F : Fun K x qual st f fd) (S : FnScope N ps (defScope st)) (pn : Addr × Obj)
    (hbody : ∀ (cdv : Value) (A : Around) (fr : List Env) (s : Shared) (H : Hp) (E : XK), L2H.RoomH k (A.deeper (PyProof.Rows.envOfC qual (defScope st) s.heap.objs.size f cdv)) →
      ∃ t, PSs (L2H.cxH (L2.CX P w) P w K mg base N qual (defScope st) f cdv A fr s H E pn) (defBody st) t ∧ ∀ C, Cs C → Sb C (WofE E) t m) :
    FnW P w K mg base (k + 1) f fd ps pn (spX Cs (fnT ps.length N.length m)) := by
  obtain ⟨oc, od, kV, doc, pm, an, cdv, ct, osl, rfl, lk, hcd⟩ := F.ex
  have hpl : ps.length ≤ N.length := by
    have e := congrArg List.length S.pre
    rw [List.length_take] at e
    omega
  have hlen : ∀ (vs : List V) (H : Hp) (Q : VK) (E : XK), spX Cs (fnT ps.length N.length m) vs H Q E → vs.length = ps.length := fun vs H Q E h => by
    obtain ⟨C, hC, F1, xs, t, u, j, fp, r, q⟩ := h
    unfold fnT at q
    by_cases hl : xs.length = ps.length ∧ xs.all argOk = true
    · rw [r.length, hl.1]
    · rw [if_neg hl] at q; exact q.elim
  refine ⟨hlen, fun A fr s H as us vs Q E room pin env bind rel prom => ?_⟩
  have n := hlen _ _ _ _ prom
  have kin : K.In s.heap := env.mod.kin.keeps fun b o z => (env.bs b o z).1
  have nol : s.heap.NoLimit := env.mod.nolimit.keeps fun b o z => (env.bs b o z).1
  have kinds : ∀ y ∈ ps.zip us, (defScope st).names.lookup y.1 = some .local ∨ ((defScope st).names.lookup y.1 = some .cell ∧ ((cellsFrom (s.heap.objs.size + 1) (defScope st).names []).lookup y.1).isSome = true) := fun p hp =>
    (S.par p.1 (List.of_mem_zip hp).1).imp id fun z => ⟨z, PySem.W.cellsFrom_some _ _ _ (.inl z)⟩
  refine codeAny_call_function room.depth (kin _ _ lk) rfl S.co S.gen rfl (PySem.W.codeRec_of kin hcd) (bind _ _ _ _ ?_)
  refine wpAny_newFunctionEnv_cells S.kind kinds fun env1 eq s1 x1 => ?_
  subst eq
  refine ⟨nol.keeps x1.toInCall.keep, codeAny_func ?_⟩
  obtain ⟨t, ht, sb⟩ := hbody cdv A fr s H E (room.deeper _)
  have start : Inv (L2H.cxH (L2.CX P w) P w K mg base N qual (defScope st) f cdv A fr s H E pn) [] (L2.start N vs) H s1 := L2H.inv_startH S pin env n rel x1
  refine wpAny_mono (ht.run [] s1 (L2.start N vs) H _ start (body_T hpl sb prom)) (fun fl s2 h2 => ?_) fun _ _ z => z
  cases fl with
  | brk => obtain ⟨_, _, _, z⟩ := h2; exact z.elim
  | cont => obtain ⟨_, _, _, z⟩ := h2; exact z.elim
  | next => obtain ⟨σ2, H2, J, z⟩ := h2; exact ⟨.non, H2, J.os, J.bare, J.base, J.hok, rfl, z⟩
  | ret u => obtain ⟨v, σ2, H2, J, rv, z⟩ := h2; exact ⟨v, H2, J.os, J.bare, J.base, J.hok, rv, z⟩
end
section
variable {X : Cx} {k : Nat} {f : Addr} {fd : FuncData} {ps : List Str} {sp : Sp} {x : Str} {p pos : Pos} {e : Expr} {es : List Expr} {t : TA} {pn : Addr × Obj}
/-- a call of it, the exception pinned; nothing is raised there -/
theorem pe_callW (hp : pn ∈ X.pn) (F : FnW X.prog X.w X.K X.mg X.base k f fd ps pn sp) (hr : L2H.RoomH k X.A) (hg : Gl X x) (hm : X.mg x = some (.ref f)) (hk : PySem.W.keepIn X.K (.ref f) = true) (hb : Binds X.K fd ps [])
    (ha : PA X (e :: es) t) (hdb : (x == ("__debug__" : Str)) = false := by decide) (he : starEach (e :: es) X.env = (false, eval e X.env) :: starEach es X.env := by rfl) (hpl : (backTo pos (starEach es X.env)).any (·.1) = false := by rfl) :
    PE X (.Call (.Name x p) (e :: es) [] pos) (tCallS sp (fun _ _ _ _ => False) t) := by
  refine ⟨fun pins s σ H Q I h => ?_⟩
  refine wpAny_Call_Name_kw (ld_glob I hg hm ?_ hdb)
  refine PySem.W.callWith_K (h₀ := X.base) I.ok.mod.kin hk (thn (ha.run pos pins s σ H _ I h) fun us s1 ⟨vs, H1, I1, r, q⟩ => ⟨I1.kIn, ?_⟩) he hpl
  have n : us.length = ps.length := by rw [← r.length]; exact F.len _ _ _ _ q
  have b := hb s1 us I1.kIn (by rw [List.append_nil]; exact n)
  rw [List.append_nil] at b
  obtain ⟨p1, p2, p3, p4, p5⟩ := I1.pin pn (List.mem_append_left _ hp)
  have ok : L2H.PinOk X.stack H1 s1 pn := ⟨p1, p2, fun z => (List.mem_cons.mp (I1.stkSub pn.1 z)).elim p3 p4, p5⟩
  refine wpAny_call (codeAny_mono (F.run X.A X.stack s1 H1 ⟨us, []⟩ us vs Q (fun _ _ _ => False) hr ok I1.env0 b r q) fun r2 s2 h2 => ?_)
  match r2, h2 with
  | .ok (.ret u), h2 => exact I1.after h2
  | .ok .next, h2 => exact h2.elim
  | .ok .brk, h2 => exact h2.elim
  | .ok .cont, h2 => exact h2.elim
  | .error u, h2 =>
    obtain ⟨_, _, _, _, _, _, _, _, _, _, _, _, z⟩ := h2
    exact z.elim
/-- isinstance(e, X), e's object pinned -/
theorem call_isW {a D : Addr} {oe : Obj} (C : ExcC X.K D) (hz : Zc (.ref D) none oe) (hf : ∃ vs, oe.data = .fields vs) (hp : (a, oe) ∈ X.pn) : CallR X (.builtin "isinstance") (rIsE X.K D a) := by
  intro pins s σ H xs us Q I r h
  obtain ⟨c, cv, b, rfl, hcv, e, q⟩ := h
  cases r with
  | cons rx rr =>
    cases rr with
    | cons rt rr =>
      cases rr
      cases rx
      cases hcv _ rt
      obtain ⟨vs, hv⟩ := hf
      have at_ := (I.pin (a, oe) (List.mem_append.mpr (.inl hp))).1
      have J : PySem.W.InstAt s.heap a oe D none := by
        obtain ⟨oc, od, oda, osl⟩ := oe
        obtain ⟨h1, h2⟩ := hz
        dsimp only at h1 h2 hv
        subst h1 h2 hv
        exact ⟨at_, rfl, rfl, trivial⟩
      exact PySem.W.kia_one (PySem.W.handS_kitx_exc C.hg C.hk C.hs C.hd C.ha C.hn C.ht C.hm) I.kIn J e (fun z => nomatch z) fun tk => ⟨.bl b, H, I.kept (t' := tk) fun _ _ z => z, rfl, q⟩
end
def mIsW (b : Nat → Option Bool) (i : Nat) : M Nat D := fun s => match s.env[i]?, b s.t with
  | some (.pt _), some k => .ok (.bool k) s
  | _, _ => .stuck
theorem sv_isW {K : PySem.W.Frag} {cls : Nat → Addr} {a : Addr} {c : Nat} {W : WX} {i : Nat} {v : V} {cv : Value} {b : Nat → Option Bool} (hv : ∀ u, RelV v u → u = cv) (hb : ∀ k, b c = some k → PySem.W.kitOne K (.ref (cls c)) cv = some k) :
    Sv (CWh K cls a c) W (tCB (rIsE K (cls c) a) (tCons (tVar i) (tCons (tC v) tNil))) (mIsW b i) := by
  intro F0 H0 L s σ F H Q g h
  unfold mIsW at h
  have j : s.t = c := g.j
  rw [j] at h
  cases q : s.env[i]? with
  | none => rw [q] at h; exact h.elim
  | some x =>
    rw [q] at h
    cases x with
    | pt n =>
      cases q2 : b c with
      | none => rw [q2] at h; exact h.elim
      | some k =>
        rw [q2] at h
        exact ⟨_, g.slots i _ q, v, cv, k, rfl, hv, hb k q2, h F H g (Same.refl F) _ (.bl k)⟩
    | _ => exact h.elim
section
variable {X : Cx} {W : WX} {K : PySem.W.Frag} {cls : Nat → Addr} {a e : Expr} {p p1 p2 pos : Pos} {en x : Str}
/-- isinstance(e, X), X a class of the module -/
theorem dv_isW {aa : Addr} {oe : Obj} {c : Nat} (i n : Nat) (b : Nat → Option Bool) (hX : X.K = K) (CC : ExcC K (cls c)) (hz : Zc (.ref (cls c)) none oe) (hf : ∃ vs, oe.data = .fields vs) (hp : (aa, oe) ∈ X.pn) (hm : X.mg "isinstance" = none) (hx : X.mg x = some (.ref (cls n))) (hb : ∀ k, b c = some k → PySem.W.kitOne K (.ref (cls c)) (.ref (cls n)) = some k)
    (hN : X.N[i]? = some en := by rfl) (hv : Vis X.env.scope en := by first | exact Or.inl rfl | exact Or.inr (Or.inl rfl) | exact Or.inr (Or.inr rfl)) (hd1 : (en == ("__debug__" : Str)) = false := by decide) (hcd : (en == ("__classdict__" : Str)) = false := by decide)
    (hg : Gl X "isinstance" := by rfl) (hgx : Gl X x := by rfl) (hdb : (x == ("__debug__" : Str)) = false := by decide) (he : starEach [.Name en p1, .Name x p2] X.env = (false, eval (.Name en p1) X.env) :: starEach [.Name x p2] X.env := by rfl) (he2 : starEach [.Name x p2] X.env = (false, eval (.Name x p2) X.env) :: starEach [] X.env := by rfl) (hpl : (backTo pos (starEach [.Name x p2] X.env)).any (·.1) = false := by rfl) :
    DV X (CWh K cls aa c) W (.Call (.Name "isinstance" p) [.Name en p1, .Name x p2] [] pos) (tCB (rIsE K (cls c) aa) (tCons (tVar i) (tCons (tC (.ref (cls n))) tNil))) (mIsW b i) := by
  subst hX
  exact ⟨pe_callB (call_isW CC hz hf hp) hg hm PyProof.Rows.boot_isinstance (pa_cons (pe_var hN hv hd1 hcd) (pa_cons (pe_glob hgx hx rfl hdb) pa_nil he2) he) (by decide) (by decide) he hpl, sv_isW (fun u r => r) hb⟩
/-- isinstance(e, ValueError) -/
theorem dv_isWV {aa : Addr} {oe : Obj} {c : Nat} (i : Nat) (b : Nat → Option Bool) (hX : X.K = K) (CC : ExcC K (cls c)) (hz : Zc (.ref (cls c)) none oe) (hf : ∃ vs, oe.data = .fields vs) (hp : (aa, oe) ∈ X.pn) (hm : X.mg "isinstance" = none) (hx : X.mg "ValueError" = none) (hb : ∀ k, b c = some k → PySem.W.kitOne K (.ref (cls c)) (.type "ValueError") = some k)
    (hN : X.N[i]? = some en := by rfl) (hv : Vis X.env.scope en := by first | exact Or.inl rfl | exact Or.inr (Or.inl rfl) | exact Or.inr (Or.inr rfl)) (hd1 : (en == ("__debug__" : Str)) = false := by decide) (hcd : (en == ("__classdict__" : Str)) = false := by decide)
    (hg : Gl X "isinstance" := by rfl) (hgx : Gl X "ValueError" := by rfl) (he : starEach [.Name en p1, .Name "ValueError" p2] X.env = (false, eval (.Name en p1) X.env) :: starEach [.Name "ValueError" p2] X.env := by rfl) (he2 : starEach [.Name "ValueError" p2] X.env = (false, eval (.Name "ValueError" p2) X.env) :: starEach [] X.env := by rfl) (hpl : (backTo pos (starEach [.Name "ValueError" p2] X.env)).any (·.1) = false := by rfl) :
    DV X (CWh K cls aa c) W (.Call (.Name "isinstance" p) [.Name en p1, .Name "ValueError" p2] [] pos) (tCB (rIsE K (cls c) aa) (tCons (tVar i) (tCons (tC (.ty "ValueError")) tNil))) (mIsW b i) := by
  subst hX
  exact ⟨pe_callB (call_isW CC hz hf hp) hg hm PyProof.Rows.boot_isinstance (pa_cons (pe_var hN hv hd1 hcd) (pa_cons (pe_bltn hgx hx (by decide +kernel) rfl (by decide) (by decide)) pa_nil he2) he) (by decide) (by decide) he hpl, sv_isW (fun u r => r) hb⟩
end
end Pm

set_option Elab.async false
set_option linter.all false
set_option maxRecDepth 100000
/-! try .. except X as e: return f(e). -/
namespace Pm
open PySem L2 RZ
def mTryW {T : Type} (i : Nat) (okc : Nat → Bool) (g : List Slot → Nat → Rt Nat) (m : M T Out) : M T Out := fun s => match m s with
  | .exc c s' => if okc c = true ∧ i < s'.env.length then (match g [.pt 0] c with
    | .ok d _ => .ok (.ret d) s'
    | _ => .stuck) else .stuck
  | .ok o s' => .ok o s'
  | .stuck => .stuck
/-- the suite's reading -/
def tsW (K : PySem.W.Frag) (cls : Nat → Addr) (okc : Nat → Bool) (g : List Slot → Nat → Rt Nat) (i : Nat) : Addr → Value → Option Addr → TS := fun a cl d D σ H =>
  ∃ c, okc c = true ∧ cl = .ref (cls c) ∧ d = none ∧ tRet (tCallS (spX (fun C => C = CWh K cls a c) g) (fun _ _ _ _ => False) (tCons (tVar i) tNil)) D σ H
section
variable {T : Type} {X : Cx} {C : Ct T} {W : WX} {k : Nat} {cls : Nat → Addr} {K : PySem.W.Frag}
/-- what is asked of the def that is handed the exception -/
structure DefW (P : Program) (w : World) (K : PySem.W.Frag) (mg : Str → Option Value) (base : Heap) (cls : Nat → Addr) (x : Str) (k : Nat) (ps : List Str) (okc : Nat → Bool) (g : List Slot → Nat → Rt Nat) : Prop where
  ok : ∀ (pn : Addr × Obj) (c : Nat), okc c = true → Zc (.ref (cls c)) none pn.2 → (∃ vs, pn.2.data = .fields vs) →
    ∃ (f : Addr) (fd : FuncData), FnW P w K mg base k f fd ps pn (spX (fun C => C = CWh K cls pn.1 c) g) ∧ mg x = some (.ref f) ∧ PySem.W.keepIn K (.ref f) = true ∧ Binds K fd ps []
  ex : ∀ c, okc c = true → PySem.W.exmOne K (.ref (cls c)) (.ref (cls 0)) = some true
theorem sb_tryW {tb : WX → TS} {m : M T Out} {okc : Nat → Bool} {g : List Slot → Nat → Rt Nat} {i : Nat} (hK : C.K = K) (hc : C.cls = cls) (he : ∀ c, okc c = true → PySem.W.exmOne K (.ref (cls c)) (.ref (cls 0)) = some true)
    (hb : ∀ W', Sb C W' (tb W') m) : Sb C W (fun D σ H => tb (wAs K (.ref (cls 0)) i (tsW K cls okc g i) W D) D σ H) (mTryW i okc g m) := by
  intro F0 H0 L s σ F H E gd h
  refine hb _ _ _ _ _ _ _ _ _ gd ?_
  unfold mTryW at h
  cases q : m s with
  | stuck => rw [q] at h; exact h
  | ok o s' =>
    rw [q] at h
    cases o <;> exact h
  | exc c s' =>
    rw [q] at h
    simp only at h
    intro σ' F' H' g' e'
    by_cases ho : okc c = true ∧ i < s'.env.length
    · rw [if_pos ho] at h
      refine ⟨true, by rw [hc]; exact he c ho.1, fun _ a _ => ⟨c, ho.1, by rw [hc], rfl, ?_⟩, fun z => nomatch z⟩
      have hl : i < σ'.length := by rw [← g'.len]; exact ho.2
      refine ⟨.ref a, by rw [List.getElem?_set_self hl], CWh K cls a c, rfl, F', [.pt 0], c, g'.sub, rfl, (fun b z => absurd z (by simp [CWh])), ⟨rfl, trivial⟩, ?_⟩
      cases q2 : g [.pt 0] c with
      | stuck => rw [q2] at h; exact h.elim
      | exc c2 t2 => rw [q2] at h; exact h.elim
      | ok d t2 =>
        rw [q2] at h
        intro v F2 H2 af rv
        have g2 : Good C F0 H0 L s' σ' F2 H2 := g'.aft ⟨af.ex, af.sub, af.nw, fun b o z => af.st b o z (by simp [CWh])⟩
        exact h v σ' F2 H2 g2 (e'.trans af.ex) (by rw [hK]; exact rv)
    · rw [if_neg ho] at h; exact h.elim
theorem ds_tryW {x n fn : Str} {body : List Stmt} {np ep fp cp rp hp tp : Pos} {tb : WX → TS} {m : M T Out} {okc : Nat → Bool} {g : List Slot → Nat → Rt Nat} {k' : Nat} {ps : List Str} (i : Nat) (q : Cur X C W k cls K) (FW : DefW X.prog X.w X.K X.mg X.base cls fn k' ps okc g) (hk : k' ≤ k) (gP : X.mg x = some (.ref (cls 0)))
    (hb : ∀ (W' : WX) (pn : List (Addr × Obj)) (xe : Value → Shared → Prop), Cur (X.tr pn xe) C W' k cls K → DSs (X.tr pn xe) C W' body (tb W') m)
    (hs : X.stack = X.env :: X.outer := by rfl) (hf : X.env.frame = some X.env.locals := by rfl) (hi : X.N[i]? = some n := by rfl) (hln : X.env.kindOf n = some .local := by rfl) (hgx : Gl X x := by rfl) (hgf : Gl X fn := by rfl) (hdx : (x == ("__debug__" : Str)) = false := by decide) (hdf : (fn == ("__debug__" : Str)) = false := by decide)
    (hdn : (n == ("__debug__" : Str)) = false := by decide) (hcn : (n == ("__classdict__" : Str)) = false := by decide)
    (he : starEach [.Name n ep] X.env = (false, eval (.Name n ep) X.env) :: starEach [] X.env := by rfl) (hpl : (backTo cp (starEach [] X.env)).any (·.1) = false := by rfl) :
    DS X C W (.Try body [.ExceptHandler (some (.Name x np)) (some n) [.Return (some (.Call (.Name fn fp) [.Name n ep] [] cp)) rp] hp] [] [] tp) (fun D σ H => tb (wAs K (.ref (cls 0)) i (tsW K cls okc g i) W D) D σ H) (mTryW i okc g m) := by
  refine ⟨?_, sb_tryW q.hK q.hc (fun c ho => by rw [← q.hX]; exact FW.ex c ho) fun W' => ?_⟩
  · have hX := q.hX
    subst hX
    refine ps_try_as (i := i) hs hf q.nd hi hln ⟨hgx, hdx, .inl gP⟩ q.tk (fun W' pn xe tk po => (hb W' pn xe (Cur.mk' tk q.hr rfl q.hK q.calm q.nd q.hc)).pe) (fun a oe cl d pn hz hfl => ⟨fun pins s σ H D I h => ?_⟩)
    obtain ⟨c, ho, rfl, rfl, h⟩ := h
    obtain ⟨f, fd, F1, hm, kp, bi⟩ := FW.ok (a, oe) c ho hz hfl
    refine (pss_one (ps_ret (pe_callW (X := X.suite a ((a, oe) :: pn)) (pn := (a, oe)) List.mem_cons_self F1 ?_ hgf hm kp bi (pa_cons (pe_var hi (.inl hln) hdn hcn) pa_nil he) hdf he hpl))).run pins s σ H D I h
    have r := q.hr.mono hk
    exact ⟨r.dp, r.un⟩
  · exact (hb W' [] (fun _ _ => True) (Cur.mk' (fun _ _ _ => trivial) q.hr q.hX q.hK q.calm q.nd q.hc)).sv
end
end Pm

set_option Elab.async false
set_option linter.all false
set_option maxRecDepth 100000
/-! list(x). -/
namespace Pm
open PySem L2 RZ
abbrev rListA (K : PySem.W.Frag) : List V → Hp → VK → Prop := rcOr (fun xs H Q => ∃ p ys, xs = [.ref p] ∧ (SqL K H p ys ∨ SqT K H p ys) ∧ ∀ l, H l = none → Q (.ref l) (upd H l (.lst ys)))
  (fun xs H Q => ∃ (a : Addr) (kvs : List (Key × V)), xs = [.ref a] ∧ Rd H a (.dK kvs) ∧ ∀ p, H p = none → Q (.ref p) (upd H p (.lst (kvs.map fun kv => kV kv.1))))
def listOf : D → Option (List D)
  | .list ds => some ds
  | .tuple ds => some ds
  | .dict kvs => some (kvs.map (·.1))
  | _ => none
def mListOf {T : Type} (f : M T D) : M T Slot := mBind f fun d => mLift ((listOf d).map .ol)
theorem rep_kd {K : PySem.W.Frag} {F : Hp} : ∀ k : Key, Rep K F (kV k) (kD k)
  | .inl i => .int i
  | .inr x => .str x
theorem RepKV.keys {K : PySem.W.Frag} {F : Hp} : ∀ {ks : List (Key × V)} {ds : List (D × D)}, RepKV K F ks ds → RepL K F (ks.map fun kv => kV kv.1) (ds.map (·.1))
  | _, _, .nil => .nil
  | _, _, .cons _ r => .cons (rep_kd _) r.keys
section
variable {T : Type} {C : Ct T} {W : WX} {X : Cx} {k : Nat} {cls : Nat → Addr} {K : PySem.W.Frag} {a : Expr} {p pos : Pos} {ta : TE} {fa : M T D}
theorem se_list (h : Sv C W ta fa) : Se C W (tCB (rListA C.K) (tCons ta tNil)) (mListOf fa) := by
  intro F0 H0 L s σ F H Q g q
  refine h _ _ _ _ _ _ _ _ g (po_imp (po_bind q) fun d s1 F1 H1 g1 e1 h1 v rv => ?_)
  obtain ⟨x, q2, h2⟩ := po_lift h1
  have fin : ∀ (ys : List V) (ds : List D), RepL C.K F1 ys ds → x = .ol ds → ∀ l, H1 l = none → Q (.ref l) (upd H1 l (.lst ys)) := fun ys ds r ex l hl => by
    subst ex
    exact po_ret h2 (g1.alloc hl) _ ⟨l, ys, rfl, Tmp.fresh g1 hl, upd_same, r⟩
  cases rv with
  | lst hx r => cases q2; exact .inl ⟨_, _, rfl, .inl (SqL.of (g1.sub.lst hx)), fin _ _ r rfl⟩
  | tup hx r => cases q2; exact .inl ⟨_, _, rfl, .inr (g1.sub.tup hx), fin _ _ r rfl⟩
  | dic hx r => cases q2; exact .inr ⟨_, _, rfl, g1.sub.dic hx, fin _ _ r.keys rfl⟩
  | _ => cases q2
theorem de_list (q : Cur X C W k cls K) (hm : X.mg "list" = none) (ha : DV X C W a ta fa) (hg : Gl X "list" := by rfl) (he : starEach [a] X.env = (false, eval a X.env) :: starEach [] X.env := by rfl) : DE X C W (.Call (.Name "list" p) [a] [] pos) (tCB (rListA K) (tCons ta tNil)) (mListOf fa) :=
  ⟨by rw [← q.hX]; exact pe_callTy (call_list_of.or (call_listD q.calm)) hg hm PyProof.Rows.boot_list (pa_cons ha.pe pa_nil he) (by decide) (by decide) he (by rfl), by rw [← q.hK]; exact se_list ha.sv⟩
end
theorem DSs.twoE {T : Type} {X : Cx} {C : Ct T} {W : WX} {st : List Stmt} {t : TS} {m : M T Out} (h : DSs X C W st t m) : ∃ t, PSs X st t ∧ ∀ C', C' = C → Sb C' W t m := ⟨t, h.pe, fun _ e => e ▸ h.sv⟩
/-! ### facts of the exceptions -/
theorem kit_ref {K : PySem.W.Frag} {D X : Addr} {b : Bool} (i : PySem.W.hasDictIn K X = true) (t : PySem.W.typeIn K (.ref X) = some (.type "type")) (s : PySem.W.subIn K (.ref D) (.ref X) = some b) (s2 : PySem.W.subIn K (.ref D) (.ref D) = some true) : PySem.W.kitOne K (.ref D) (.ref X) = some b := by
  unfold PySem.W.kitOne
  by_cases h : D = X
  · subst h
    rw [s] at s2
    rw [s2, if_pos (by simp)]
  · rw [if_neg (by simpa using h)]
    obtain ⟨cd, hc, _⟩ := PySem.W.any_some i
    show (if ((PySem.W.clsIn K X).isSome && PySem.W.typeIn K (.ref X) == some (.type "type")) = true then PySem.W.subIn K (.ref D) (.ref X) else none) = some b
    rw [hc, t, if_pos (by simp)]
    exact s
theorem kit_sub {K : PySem.W.Frag} {D : Addr} {n : String} {b : Bool} (m : PySem.W.kitMeta n = true) (s : PySem.W.subIn K (.ref D) (.type n) = some b) : PySem.W.kitOne K (.ref D) (.type n) = some b := by
  unfold PySem.W.kitOne
  rw [if_neg (by simp)]
  show (if PySem.W.kitMeta n = true then PySem.W.subIn K (.ref D) (.type n) else none) = some b
  rw [if_pos m]
  exact s
def tabW (okc : Nat → Bool) (n : Nat) (c : Nat) : Option Bool := if okc c = true then some (decide (c = n)) else none
def tabV (okc : Nat → Bool) (c : Nat) : Option Bool := if okc c = true then some true else none
theorem tab_of {okc : Nat → Bool} {n c : Nat} {o : Option Bool} (ho : okc c = true) (h : o = some (decide (c = n))) : ∀ k, tabW okc n c = some k → o = some k := fun k z => by
  unfold tabW at z
  rw [if_pos ho] at z
  rw [h, z]
theorem tabV_of {okc : Nat → Bool} {c : Nat} {o : Option Bool} (ho : okc c = true) (h : o = some true) : ∀ k, tabV okc c = some k → o = some k := fun k z => by
  unfold tabV at z
  rw [if_pos ho] at z
  rw [h, z]
end Pm

set_option Elab.async false
set_option linter.all false
set_option maxRecDepth 100000
set_option maxHeartbeats 4000000
namespace Pm
open PySem L2 RZ
def top (i : Nat) : Stmt := PySem.Challenge.pw_racerows_k10_rights_refused.main.body.getD i (.Pass ⟨0, 0, 0, 0⟩)

abbrev s_is_whole : Stmt := top 24
abbrev N_is_whole : List Str := ["thing", "least", "most"]
theorem sc_is_whole : FnScope N_is_whole ["thing", "least", "most"] (defScope s_is_whole) := ⟨rfl, rfl, rfl, by decide +kernel, rfl, by decide +kernel, by decide +kernel⟩
abbrev s_is_boat : Stmt := top 27
abbrev N_is_boat : List Str := ["thing", "sign"]
theorem sc_is_boat : FnScope N_is_boat ["thing"] (defScope s_is_boat) := ⟨rfl, rfl, rfl, by decide +kernel, rfl, by decide +kernel, by decide +kernel⟩
abbrev s_is_hull : Stmt := top 30
abbrev N_is_hull : List Str := ["thing", "one"]
theorem sc_is_hull : FnScope N_is_hull ["thing"] (defScope s_is_hull) := ⟨rfl, rfl, rfl, by decide +kernel, rfl, by decide +kernel, by decide +kernel⟩
abbrev s_is_wind : Stmt := top 31
abbrev N_is_wind : List Str := ["thing", "one"]
theorem sc_is_wind : FnScope N_is_wind ["thing"] (defScope s_is_wind) := ⟨rfl, rfl, rfl, by decide +kernel, rfl, by decide +kernel, by decide +kernel⟩
abbrev s_need_hulls : Stmt := top 32
abbrev N_need_hulls : List Str := ["some", "one"]
theorem sc_need_hulls : FnScope N_need_hulls ["some"] (defScope s_need_hulls) := ⟨rfl, rfl, rfl, by decide +kernel, rfl, by decide +kernel, by decide +kernel⟩
abbrev s_need_wind : Stmt := top 33
abbrev N_need_wind : List Str := ["thing"]
theorem sc_need_wind : FnScope N_need_wind ["thing"] (defScope s_need_wind) := ⟨rfl, rfl, rfl, by decide +kernel, rfl, by decide +kernel, by decide +kernel⟩
abbrev s_heading : Stmt := top 34
abbrev N_heading : List Str := ["hull"]
theorem sc_heading : FnScope N_heading ["hull"] (defScope s_heading) := ⟨rfl, rfl, rfl, by decide +kernel, rfl, by decide +kernel, by decide +kernel⟩
abbrev s_tack_of : Stmt := top 35
abbrev N_tack_of : List Str := ["hull", "wind", "x", "y"]
theorem sc_tack_of : FnScope N_tack_of ["hull", "wind"] (defScope s_tack_of) := ⟨rfl, rfl, rfl, by decide +kernel, rfl, by decide +kernel, by decide +kernel⟩
abbrev s_tack : Stmt := top 36
abbrev N_tack : List Str := ["hull", "wind"]
theorem sc_tack : FnScope N_tack ["hull", "wind"] (defScope s_tack) := ⟨rfl, rfl, rfl, by decide +kernel, rfl, by decide +kernel, by decide +kernel⟩
abbrev s_is_behind : Stmt := top 37
abbrev N_is_behind : List Str := ["one", "other", "x", "y"]
theorem sc_is_behind : FnScope N_is_behind ["one", "other"] (defScope s_is_behind) := ⟨rfl, rfl, rfl, by decide +kernel, rfl, by decide +kernel, by decide +kernel⟩
abbrev s_lie_of : Stmt := top 38
abbrev N_lie_of : List Str := ["one", "other", "first", "second"]
theorem sc_lie_of : FnScope N_lie_of ["one", "other"] (defScope s_lie_of) := ⟨rfl, rfl, rfl, by decide +kernel, rfl, by decide +kernel, by decide +kernel⟩
abbrev s_lie : Stmt := top 39
abbrev N_lie : List Str := ["one", "other"]
theorem sc_lie : FnScope N_lie ["one", "other"] (defScope s_lie) := ⟨rfl, rfl, rfl, by decide +kernel, rfl, by decide +kernel, by decide +kernel⟩
abbrev s_clear_of : Stmt := top 40
abbrev N_clear_of : List Str := ["one", "other", "wind", "first", "second", "told", "far"]
theorem sc_clear_of : FnScope N_clear_of ["one", "other", "wind"] (defScope s_clear_of) := ⟨rfl, rfl, rfl, by decide +kernel, rfl, by decide +kernel, by decide +kernel⟩
abbrev s_keeps_clear : Stmt := top 41
abbrev N_keeps_clear : List Str := ["one", "other", "wind"]
theorem sc_keeps_clear : FnScope N_keeps_clear ["one", "other", "wind"] (defScope s_keeps_clear) := ⟨rfl, rfl, rfl, by decide +kernel, rfl, by decide +kernel, by decide +kernel⟩
abbrev s_is_protest : Stmt := top 42
abbrev N_is_protest : List Str := ["thing"]
theorem sc_is_protest : FnScope N_is_protest ["thing"] (defScope s_is_protest) := ⟨rfl, rfl, rfl, by decide +kernel, rfl, by decide +kernel, by decide +kernel⟩
abbrev s_is_facts : Stmt := top 43
abbrev N_is_facts : List Str := ["thing"]
theorem sc_is_facts : FnScope N_is_facts ["thing"] (defScope s_is_facts) := ⟨rfl, rfl, rfl, by decide +kernel, rfl, by decide +kernel, by decide +kernel⟩
abbrev s_heard_of : Stmt := top 44
abbrev N_heard_of : List Str := ["protest", "found", "told"]
theorem sc_heard_of : FnScope N_heard_of ["protest", "found"] (defScope s_heard_of) := ⟨rfl, rfl, rfl, by decide +kernel, rfl, by decide +kernel, by decide +kernel⟩
abbrev s_heard : Stmt := top 45
abbrev N_heard : List Str := ["protest", "found"]
theorem sc_heard : FnScope N_heard ["protest", "found"] (defScope s_heard) := ⟨rfl, rfl, rfl, by decide +kernel, rfl, by decide +kernel, by decide +kernel⟩
abbrev s__law_draw : Stmt := top 47
abbrev N__law_draw : List Str := ["_law_script", "_law_town", "_law_many", "_law_one", "_law_at", "_law_mixed"]
theorem sc__law_draw : FnScope N__law_draw ["_law_script", "_law_town", "_law_many"] (defScope s__law_draw) := ⟨rfl, rfl, rfl, by decide +kernel, rfl, by decide +kernel, by decide +kernel⟩
abbrev s__law_pick : Stmt := top 48
abbrev N__law_pick : List Str := ["_law_script", "_law_town", "_law_some"]
theorem sc__law_pick : FnScope N__law_pick ["_law_script", "_law_town", "_law_some"] (defScope s__law_pick) := ⟨rfl, rfl, rfl, by decide +kernel, rfl, by decide +kernel, by decide +kernel⟩
abbrev s__law_which : Stmt := top 49
abbrev N__law_which : List Str := ["_law_e", "_law_own"]
theorem sc__law_which : FnScope N__law_which ["_law_e"] (defScope s__law_which) := ⟨rfl, rfl, rfl, by decide +kernel, rfl, by decide +kernel, by decide +kernel⟩
abbrev s__law_ask : Stmt := top 50
abbrev N__law_ask : List Str := ["_law_what", "_law_one", "_law_other", "_law_third", "_law_e"]
theorem sc__law_ask : FnScope N__law_ask ["_law_what", "_law_one", "_law_other", "_law_third"] (defScope s__law_ask) := ⟨rfl, rfl, rfl, by decide +kernel, rfl, by decide +kernel, by decide +kernel⟩
abbrev s__law_protests : Stmt := top 51
abbrev N__law_protests : List Str := ["_law_good", "_law_facts", "_law_wrong", "_law_one"]
theorem sc__law_protests : FnScope N__law_protests ["_law_good", "_law_facts"] (defScope s__law_protests) := ⟨rfl, rfl, rfl, by decide +kernel, rfl, by decide +kernel, by decide +kernel⟩
abbrev s__law_far : Stmt := top 52
abbrev N__law_far : List Str := ["_law_hull", "_law_wind", "_law_good"]
theorem sc__law_far : FnScope N__law_far ["_law_hull", "_law_wind", "_law_good"] (defScope s__law_far) := ⟨rfl, rfl, rfl, by decide +kernel, rfl, by decide +kernel, by decide +kernel⟩
abbrev s_law : Stmt := top 53
abbrev N_law : List Str := ["_law_script", "_law_town", "_law_hull", "_law_wind", "_law_good", "_law_bad", "_law_odd", "_law_first", "_law_other", "_law_one", "_law_facts", "_law_what"]
theorem sc_law : FnScope N_law ["_law_script"] (defScope s_law) := ⟨rfl, rfl, rfl, by decide +kernel, rfl, by decide +kernel, by decide +kernel⟩
def okcW (c : Nat) : Bool := c == 13 || c == 14 || c == 15 || c == 16
structure BB (K : PySem.W.Frag) (mg : Str → Option Value) (cls : Nat → Addr) : Prop where
  n_ValueError : mg "ValueError" = none
  n_all : mg "all" = none
  n_bool : mg "bool" = none
  n_int : mg "int" = none
  n_isinstance : mg "isinstance" = none
  n_len : mg "len" = none
  n_list : mg "list" = none
  n_range : mg "range" = none
  n_str : mg "str" = none
  n_tuple : mg "tuple" = none
  e_RaceError : ExcP K mg "RaceError" (cls 0)
  e_NoShare : ExcP K mg "NoShare" (cls 1)
  e_NoTide : ExcP K mg "NoTide" (cls 2)
  e_NoNumber : ExcP K mg "NoNumber" (cls 3)
  e_NoTrack : ExcP K mg "NoTrack" (cls 4)
  e_NoGate : ExcP K mg "NoGate" (cls 5)
  e_NoCourse : ExcP K mg "NoCourse" (cls 6)
  e_NoRule : ExcP K mg "NoRule" (cls 7)
  e_NoEntries : ExcP K mg "NoEntries" (cls 8)
  e_NoRace : ExcP K mg "NoRace" (cls 9)
  e_NoSeries : ExcP K mg "NoSeries" (cls 10)
  e_NoDrops : ExcP K mg "NoDrops" (cls 11)
  e_NoBoat : ExcP K mg "NoBoat" (cls 12)
  e_NoHull : ExcP K mg "NoHull" (cls 13)
  e_NoWind : ExcP K mg "NoWind" (cls 14)
  e_NoProtest : ExcP K mg "NoProtest" (cls 15)
  e_NoFacts : ExcP K mg "NoFacts" (cls 16)
  e_NoOutcome : ExcP K mg "NoOutcome" (cls 17)
  e_Taken : ExcP K mg "Taken" (cls 18)
  e_NoThing : ExcP K mg "NoThing" (cls 19)
  e_NoDeed : ExcP K mg "NoDeed" (cls 20)
  e_NoText : ExcP K mg "NoText" (cls 21)
  c_LETTERS : ∃ t, mg "LETTERS" = some (.str "abcdefghijklmnopqrstuvwxyz" t)
  c_FAR : ∃ t, mg "FAR" = some (.int 1000 t)
  d_is_whole : Std K mg "is_whole" s_is_whole ["thing", "least", "most"]
  d_is_boat : Std K mg "is_boat" s_is_boat ["thing"]
  d_is_hull : Std K mg "is_hull" s_is_hull ["thing"]
  d_is_wind : Std K mg "is_wind" s_is_wind ["thing"]
  d_need_hulls : Std K mg "need_hulls" s_need_hulls ["some"]
  d_need_wind : Std K mg "need_wind" s_need_wind ["thing"]
  d_heading : Std K mg "heading" s_heading ["hull"]
  d_tack_of : Std K mg "tack_of" s_tack_of ["hull", "wind"]
  d_tack : Std K mg "tack" s_tack ["hull", "wind"]
  d_is_behind : Std K mg "is_behind" s_is_behind ["one", "other"]
  d_lie_of : Std K mg "lie_of" s_lie_of ["one", "other"]
  d_lie : Std K mg "lie" s_lie ["one", "other"]
  d_clear_of : Std K mg "clear_of" s_clear_of ["one", "other", "wind"]
  d_keeps_clear : Std K mg "keeps_clear" s_keeps_clear ["one", "other", "wind"]
  d_is_protest : Std K mg "is_protest" s_is_protest ["thing"]
  d_is_facts : Std K mg "is_facts" s_is_facts ["thing"]
  d_heard_of : Std K mg "heard_of" s_heard_of ["protest", "found"]
  d_heard : Std K mg "heard" s_heard ["protest", "found"]
  d__law_draw : Std K mg "_law_draw" s__law_draw ["_law_script", "_law_town", "_law_many"]
  d__law_pick : Std K mg "_law_pick" s__law_pick ["_law_script", "_law_town", "_law_some"]
  d__law_which : Std K mg "_law_which" s__law_which ["_law_e"]
  d__law_ask : Std K mg "_law_ask" s__law_ask ["_law_what", "_law_one", "_law_other", "_law_third"]
  d__law_protests : Std K mg "_law_protests" s__law_protests ["_law_good", "_law_facts"]
  d__law_far : Std K mg "_law_far" s__law_far ["_law_hull", "_law_wind", "_law_good"]
  w_cc : ∀ c, okcW c = true → ExcC K (cls c)
  w_kv : ∀ c, okcW c = true → PySem.W.kitOne K (.ref (cls c)) (.type "ValueError") = some true
  w_ex : ∀ c, okcW c = true → PySem.W.exmOne K (.ref (cls c)) (.ref (cls 0)) = some true
  w_k1 : ∀ c, okcW c = true → PySem.W.kitOne K (.ref (cls c)) (.ref (cls 1)) = some (decide (c = 1))
  w_k2 : ∀ c, okcW c = true → PySem.W.kitOne K (.ref (cls c)) (.ref (cls 2)) = some (decide (c = 2))
  w_k3 : ∀ c, okcW c = true → PySem.W.kitOne K (.ref (cls c)) (.ref (cls 3)) = some (decide (c = 3))
  w_k4 : ∀ c, okcW c = true → PySem.W.kitOne K (.ref (cls c)) (.ref (cls 4)) = some (decide (c = 4))
  w_k5 : ∀ c, okcW c = true → PySem.W.kitOne K (.ref (cls c)) (.ref (cls 5)) = some (decide (c = 5))
  w_k6 : ∀ c, okcW c = true → PySem.W.kitOne K (.ref (cls c)) (.ref (cls 6)) = some (decide (c = 6))
  w_k7 : ∀ c, okcW c = true → PySem.W.kitOne K (.ref (cls c)) (.ref (cls 7)) = some (decide (c = 7))
  w_k8 : ∀ c, okcW c = true → PySem.W.kitOne K (.ref (cls c)) (.ref (cls 8)) = some (decide (c = 8))
  w_k9 : ∀ c, okcW c = true → PySem.W.kitOne K (.ref (cls c)) (.ref (cls 9)) = some (decide (c = 9))
  w_k10 : ∀ c, okcW c = true → PySem.W.kitOne K (.ref (cls c)) (.ref (cls 10)) = some (decide (c = 10))
  w_k11 : ∀ c, okcW c = true → PySem.W.kitOne K (.ref (cls c)) (.ref (cls 11)) = some (decide (c = 11))
  w_k12 : ∀ c, okcW c = true → PySem.W.kitOne K (.ref (cls c)) (.ref (cls 12)) = some (decide (c = 12))
  w_k13 : ∀ c, okcW c = true → PySem.W.kitOne K (.ref (cls c)) (.ref (cls 13)) = some (decide (c = 13))
  w_k14 : ∀ c, okcW c = true → PySem.W.kitOne K (.ref (cls c)) (.ref (cls 14)) = some (decide (c = 14))
  w_k15 : ∀ c, okcW c = true → PySem.W.kitOne K (.ref (cls c)) (.ref (cls 15)) = some (decide (c = 15))
  w_k16 : ∀ c, okcW c = true → PySem.W.kitOne K (.ref (cls c)) (.ref (cls 16)) = some (decide (c = 16))
  w_k17 : ∀ c, okcW c = true → PySem.W.kitOne K (.ref (cls c)) (.ref (cls 17)) = some (decide (c = 17))
  w_k18 : ∀ c, okcW c = true → PySem.W.kitOne K (.ref (cls c)) (.ref (cls 18)) = some (decide (c = 18))
  w_k19 : ∀ c, okcW c = true → PySem.W.kitOne K (.ref (cls c)) (.ref (cls 19)) = some (decide (c = 19))
  w_k20 : ∀ c, okcW c = true → PySem.W.kitOne K (.ref (cls c)) (.ref (cls 20)) = some (decide (c = 20))
  w_k21 : ∀ c, okcW c = true → PySem.W.kitOne K (.ref (cls c)) (.ref (cls 21)) = some (decide (c = 21))
section
variable {P : Program} {w : World} {K : PySem.W.Frag} {mg : Str → Option Value} {base : Heap} {cls : Nat → Addr}
theorem dv_c_LETTERS {T : Type} {X : Cx} {C : Ct T} {W : WX} {pos : Pos} (B : BB X.K X.mg cls) (hg : Gl X "LETTERS" := by rfl) : DV X C W (.Name "LETTERS" pos) (tC (.str "abcdefghijklmnopqrstuvwxyz")) (mRet (PyData.str "abcdefghijklmnopqrstuvwxyz")) := let ⟨t, h⟩ := B.c_LETTERS; dv_glob h ⟨t, rfl⟩ (fun _ => .str _) hg
theorem dv_c_FAR {T : Type} {X : Cx} {C : Ct T} {W : WX} {pos : Pos} (B : BB X.K X.mg cls) (hg : Gl X "FAR" := by rfl) : DV X C W (.Name "FAR" pos) (tC (.int 1000)) (mRet (PyData.int 1000)) := let ⟨t, h⟩ := B.c_FAR; dv_glob h ⟨t, rfl⟩ (fun _ => .int _) hg
def m_is_whole : M Unit Out :=
  (mReturn (mAndV (mIsi Ty.int (mVar 0)) (mAndV (mOfB (mNot (mB (mIsi Ty.bool (mVar 0))))) (mChain opLe opLe (mVar 1) (mVar 0) (mVar 2)))))
def g_is_whole : List D → Rp := fnP 3 3 m_is_whole
theorem ok_is_whole (B : BB K mg cls) : DefP P w K mg base cls "is_whole" 1 ["thing", "least", "most"] g_is_whole :=
  okD (k := 0) (m := m_is_whole) B.d_is_whole sc_is_whole rfl (fun f cdv A outer s H E hr => by
    have q := Cur.pure (X := cxOf (L2.CX P w) P w K mg base N_is_whole "is_whole" (defScope s_is_whole) f cdv A outer s H E) (W := WofE E) (k := 0) (cls := cls) (takes_of rfl rfl rfl rfl) hr rfl rfl sc_is_whole.nd
    exact DSs.two (
    (dss_one (ds_ret (dv_and (dv_isi q Ty.int B.n_isinstance B.n_int PyProof.Rows.boot_int (dv_var 0)) (dv_and (dv_not (dv_isi q Ty.bool B.n_isinstance B.n_bool PyProof.Rows.boot_bool (dv_var 0))) (dv_one (dv_chain c_le.i c_le.i (dv_var 1) (dv_var 0) (dv_var 2)))))))))
def m_is_boat : M Unit Out :=
  (mReturn (mAndV (mIsi Ty.str (mVar 0)) (mAndV (mChain opLe opLe (mRet (.int 1)) (mUn opLen (mVar 0)) (mRet (.int 8))) (mUn opAll (mFrz (mLc [1] (mIter (mVar 0)) (pName 1) (mRet true) (mOp opIn (mVar 1) (mRet (PyData.str "abcdefghijklmnopqrstuvwxyz")))))))))
def g_is_boat : List D → Rp := fnP 1 2 m_is_boat
theorem ok_is_boat (B : BB K mg cls) : DefP P w K mg base cls "is_boat" 1 ["thing"] g_is_boat :=
  okD (k := 0) (m := m_is_boat) B.d_is_boat sc_is_boat rfl (fun f cdv A outer s H E hr => by
    have q := Cur.pure (X := cxOf (L2.CX P w) P w K mg base N_is_boat "is_boat" (defScope s_is_boat) f cdv A outer s H E) (W := WofE E) (k := 0) (cls := cls) (takes_of rfl rfl rfl rfl) hr rfl rfl sc_is_boat.nd
    exact DSs.two (
    (dss_one (ds_ret (dv_and (dv_isi q Ty.str B.n_isinstance B.n_str PyProof.Rows.boot_str (dv_var 0)) (dv_and (dv_chain c_le.i c_le.i dv_int (dv_len q B.n_len (dv_var 0)) dv_int) (dv_one (dv_all q B.n_all (dv_frz (de_lc q [1] rfl (by decide) (di_seq q (dv_var 0)) (blkOk_by (own := [("sign", 1)]) (N := N_is_boat) (sc := defScope s_is_boat) (by decide +kernel)) (fun _ _ _ _ _ q1 => (dg_name 1 q1)) (fun _ _ _ _ _ q1 => dts_nil) (fun _ _ _ _ _ q1 => (dv_cmp (c_in q1) (dv_var 1) (dv_c_LETTERS B)))))))))))))
def m_is_hull : M Unit Out :=
  (mSeq (mIf ((mOr (mNot (mTruth (mIsi Ty.tuple (mVar 0)))) (mOr ((mB (mOp opNe (mUn opLen (mVar 0)) (mRet (.int 4))))) (mNot (mTruth (mUn opAll (mFrz (mLc [1] (mIter (mVar 0)) (pName 1) (mRet true) (mCall g_is_whole (mCons (mVar 1) (mCons (mOp opSub (mRet (.int 0)) (mRet (PyData.int 1000))) (mCons (mRet (PyData.int 1000)) (mRet []))))))))))))) (mReturn (mRet (.bool false))) (mRet .nx))
  (mReturn (mOp opNe (mSl (mVar 0) (mRet none) (mSome (mRet (.int 2)))) (mSl (mVar 0) (mSome (mRet (.int 2))) (mRet none)))))
def g_is_hull : List D → Rp := fnP 1 2 m_is_hull
theorem ok_is_hull (B : BB K mg cls) : DefP P w K mg base cls "is_hull" 2 ["thing"] g_is_hull :=
  okD (k := 1) (m := m_is_hull) B.d_is_hull sc_is_hull rfl (fun f cdv A outer s H E hr => by
    have q := Cur.pure (X := cxOf (L2.CX P w) P w K mg base N_is_hull "is_hull" (defScope s_is_hull) f cdv A outer s H E) (W := WofE E) (k := 1) (cls := cls) (takes_of rfl rfl rfl rfl) hr rfl rfl sc_is_hull.nd
    exact DSs.two (
    (dss_cons (ds_if (dt_w (dw_or (dt_not (dt_tru q (dv_isi q Ty.tuple B.n_isinstance B.n_tuple PyProof.Rows.boot_tuple (dv_var 0)))) (dw_or (dt_cmp (c_ne q).i (dv_len q B.n_len (dv_var 0)) dv_int) (dw_or1 (dt_not (dt_tru q (dv_all q B.n_all (dv_frz (de_lc q [1] rfl (by decide) (di_seq q (dv_var 0)) (blkOk_by (own := [("one", 1)]) (N := N_is_hull) (sc := defScope s_is_hull) (by decide +kernel)) (fun _ _ _ _ _ q1 => (dg_name 1 q1)) (fun _ _ _ _ _ q1 => dts_nil) (fun _ _ _ _ _ q1 => (dv_call q1 (ok_is_whole B) (by decide) (da_cons (dv_var 1) (da_cons (dv_sub dv_int (dv_c_FAR B)) (da_cons (dv_c_FAR B) da_nil)))))))))))))) (dss_one (ds_ret dv_bl)) dss_nil)
    (dss_one (ds_ret (dv_cmp (c_ne q).i (dv_sl q (dv_var 0) do_none (do_some dv_int)) (dv_sl q (dv_var 0) (do_some dv_int) do_none)))))))
def m_is_wind : M Unit Out :=
  (mSeq (mIf ((mOr (mNot (mTruth (mIsi Ty.tuple (mVar 0)))) (mOr ((mB (mOp opNe (mUn opLen (mVar 0)) (mRet (.int 2))))) (mNot (mTruth (mUn opAll (mFrz (mLc [1] (mIter (mVar 0)) (pName 1) (mRet true) (mCall g_is_whole (mCons (mVar 1) (mCons (mOp opSub (mRet (.int 0)) (mRet (.int 9))) (mCons (mRet (.int 9)) (mRet []))))))))))))) (mReturn (mRet (.bool false))) (mRet .nx))
  (mReturn (mOp opNe (mVar 0) (mTup (mCons (mRet (.int 0)) (mCons (mRet (.int 0)) (mRet [])))))))
def g_is_wind : List D → Rp := fnP 1 2 m_is_wind
theorem ok_is_wind (B : BB K mg cls) : DefP P w K mg base cls "is_wind" 2 ["thing"] g_is_wind :=
  okD (k := 1) (m := m_is_wind) B.d_is_wind sc_is_wind rfl (fun f cdv A outer s H E hr => by
    have q := Cur.pure (X := cxOf (L2.CX P w) P w K mg base N_is_wind "is_wind" (defScope s_is_wind) f cdv A outer s H E) (W := WofE E) (k := 1) (cls := cls) (takes_of rfl rfl rfl rfl) hr rfl rfl sc_is_wind.nd
    exact DSs.two (
    (dss_cons (ds_if (dt_w (dw_or (dt_not (dt_tru q (dv_isi q Ty.tuple B.n_isinstance B.n_tuple PyProof.Rows.boot_tuple (dv_var 0)))) (dw_or (dt_cmp (c_ne q).i (dv_len q B.n_len (dv_var 0)) dv_int) (dw_or1 (dt_not (dt_tru q (dv_all q B.n_all (dv_frz (de_lc q [1] rfl (by decide) (di_seq q (dv_var 0)) (blkOk_by (own := [("one", 1)]) (N := N_is_wind) (sc := defScope s_is_wind) (by decide +kernel)) (fun _ _ _ _ _ q1 => (dg_name 1 q1)) (fun _ _ _ _ _ q1 => dts_nil) (fun _ _ _ _ _ q1 => (dv_call q1 (ok_is_whole B) (by decide) (da_cons (dv_var 1) (da_cons (dv_sub dv_int dv_int) (da_cons dv_int da_nil)))))))))))))) (dss_one (ds_ret dv_bl)) dss_nil)
    (dss_one (ds_ret (dv_cmp (c_ne q).i (dv_var 0) (dv_tup (da_cons dv_int (da_cons dv_int da_nil)))))))))
def m_need_hulls : M Unit Out :=
  (mIf (mNot (mTruth (mUn opAll (mFrz (mLc [1] (mIter (mVar 0)) (pName 1) (mRet true) (mCall g_is_hull (mCons (mVar 1) (mRet [])))))))) (mRaise 13) (mRet .nx))
def g_need_hulls : List D → Rp := fnP 1 2 m_need_hulls
theorem ok_need_hulls (B : BB K mg cls) : DefP P w K mg base cls "need_hulls" 3 ["some"] g_need_hulls :=
  okD (k := 2) (m := m_need_hulls) B.d_need_hulls sc_need_hulls rfl (fun f cdv A outer s H E hr => by
    have q := Cur.pure (X := cxOf (L2.CX P w) P w K mg base N_need_hulls "need_hulls" (defScope s_need_hulls) f cdv A outer s H E) (W := WofE E) (k := 2) (cls := cls) (takes_of rfl rfl rfl rfl) hr rfl rfl sc_need_hulls.nd
    exact DSs.two (
    (dss_one (ds_if (dt_not (dt_tru q (dv_all q B.n_all (dv_frz (de_lc q [1] rfl (by decide) (di_seq q (dv_var 0)) (blkOk_by (own := [("one", 1)]) (N := N_need_hulls) (sc := defScope s_need_hulls) (by decide +kernel)) (fun _ _ _ _ _ q1 => (dg_name 1 q1)) (fun _ _ _ _ _ q1 => dts_nil) (fun _ _ _ _ _ q1 => (dv_call q1 (ok_is_hull B) (by decide) (da_cons (dv_var 1) da_nil)))))))) (dss_one (ds_raise 13 q (B.e_NoHull))) dss_nil))))
def m_need_wind : M Unit Out :=
  (mIf (mNot (mTruth (mCall g_is_wind (mCons (mVar 0) (mRet []))))) (mRaise 14) (mRet .nx))
def g_need_wind : List D → Rp := fnP 1 1 m_need_wind
theorem ok_need_wind (B : BB K mg cls) : DefP P w K mg base cls "need_wind" 3 ["thing"] g_need_wind :=
  okD (k := 2) (m := m_need_wind) B.d_need_wind sc_need_wind rfl (fun f cdv A outer s H E hr => by
    have q := Cur.pure (X := cxOf (L2.CX P w) P w K mg base N_need_wind "need_wind" (defScope s_need_wind) f cdv A outer s H E) (W := WofE E) (k := 2) (cls := cls) (takes_of rfl rfl rfl rfl) hr rfl rfl sc_need_wind.nd
    exact DSs.two (
    (dss_one (ds_if (dt_not (dt_tru q (dv_call q (ok_is_wind B) (by decide) (da_cons (dv_var 0) da_nil)))) (dss_one (ds_raise 14 q (B.e_NoWind))) dss_nil))))
def m_heading : M Unit Out :=
  (mReturn (mTup (mCons (mOp opSub (mOp opIx (mVar 0) (mRet (.int 0))) (mOp opIx (mVar 0) (mRet (.int 2)))) (mCons (mOp opSub (mOp opIx (mVar 0) (mRet (.int 1))) (mOp opIx (mVar 0) (mRet (.int 3)))) (mRet [])))))
def g_heading : List D → Rp := fnP 1 1 m_heading
theorem ok_heading (B : BB K mg cls) : DefP P w K mg base cls "heading" 1 ["hull"] g_heading :=
  okD (k := 0) (m := m_heading) B.d_heading sc_heading rfl (fun f cdv A outer s H E hr => by
    have q := Cur.pure (X := cxOf (L2.CX P w) P w K mg base N_heading "heading" (defScope s_heading) f cdv A outer s H E) (W := WofE E) (k := 0) (cls := cls) (takes_of rfl rfl rfl rfl) hr rfl rfl sc_heading.nd
    exact DSs.two (
    (dss_one (ds_ret (dv_tup (da_cons (dv_sub (dv_ix q (dv_var 0) dv_int) (dv_ix q (dv_var 0) dv_int)) (da_cons (dv_sub (dv_ix q (dv_var 0) dv_int) (dv_ix q (dv_var 0) dv_int)) da_nil)))))))
def m_tack_of : M Unit Out :=
  (mSeq (mSetG (pTup 2 (pCons (pName 2) (pCons (pName 3) pNil))) (mCall g_heading (mCons (mVar 0) (mRet []))))
  (mReturn (mIf ((mB (mOp opGt (mOp opSub (mOp opMul (mVar 2) (mOp opSub (mRet (.int 0)) (mOp opIx (mVar 1) (mRet (.int 1))))) (mOp opMul (mVar 3) (mOp opSub (mRet (.int 0)) (mOp opIx (mVar 1) (mRet (.int 0)))))) (mRet (.int 0))))) (mRet (.str "port")) (mRet (.str "starboard")))))
def g_tack_of : List D → Rp := fnP 2 4 m_tack_of
theorem ok_tack_of (B : BB K mg cls) : DefP P w K mg base cls "tack_of" 2 ["hull", "wind"] g_tack_of :=
  okD (k := 1) (m := m_tack_of) B.d_tack_of sc_tack_of rfl (fun f cdv A outer s H E hr => by
    have q := Cur.pure (X := cxOf (L2.CX P w) P w K mg base N_tack_of "tack_of" (defScope s_tack_of) f cdv A outer s H E) (W := WofE E) (k := 1) (cls := cls) (takes_of rfl rfl rfl rfl) hr rfl rfl sc_tack_of.nd
    exact DSs.two (
    (dss_cons (ds_setG (dv_call q (ok_heading B) (by decide) (da_cons (dv_var 0) da_nil)) (dg_tup 2 q (dgs_cons (dg_name 2 q) (dgs_cons (dg_name 3 q) dgs_nil))))
    (dss_one (ds_ret (dv_if (dt_cmp c_gt.i (dv_sub (dv_mul (dv_var 2) (dv_sub dv_int (dv_ix q (dv_var 1) dv_int))) (dv_mul (dv_var 3) (dv_sub dv_int (dv_ix q (dv_var 1) dv_int)))) dv_int) dv_str dv_str))))))
def m_tack : M Unit Out :=
  (mSeq (mExpr (mCall g_need_hulls (mCons (mTup (mCons (mVar 0) (mRet []))) (mRet []))))
  (mSeq (mExpr (mCall g_need_wind (mCons (mVar 1) (mRet []))))
  (mReturn (mCall g_tack_of (mCons (mVar 0) (mCons (mVar 1) (mRet [])))))))
def g_tack : List D → Rp := fnP 2 2 m_tack
theorem ok_tack (B : BB K mg cls) : DefP P w K mg base cls "tack" 4 ["hull", "wind"] g_tack :=
  okD (k := 3) (m := m_tack) B.d_tack sc_tack rfl (fun f cdv A outer s H E hr => by
    have q := Cur.pure (X := cxOf (L2.CX P w) P w K mg base N_tack "tack" (defScope s_tack) f cdv A outer s H E) (W := WofE E) (k := 3) (cls := cls) (takes_of rfl rfl rfl rfl) hr rfl rfl sc_tack.nd
    exact DSs.two (
    (dss_cons (ds_expr (dv_call q (ok_need_hulls B) (by decide) (da_cons (dv_tup (da_cons (dv_var 0) da_nil)) da_nil)))
    (dss_cons (ds_expr (dv_call q (ok_need_wind B) (by decide) (da_cons (dv_var 1) da_nil)))
    (dss_one (ds_ret (dv_call q (ok_tack_of B) (by decide) (da_cons (dv_var 0) (da_cons (dv_var 1) da_nil)))))))))
def m_is_behind : M Unit Out :=
  (mSeq (mSetG (pTup 2 (pCons (pName 2) (pCons (pName 3) pNil))) (mCall g_heading (mCons (mVar 1) (mRet []))))
  (mReturn (mOp opLt (mOp opAdd (mOp opMul (mOp opSub (mOp opIx (mVar 0) (mRet (.int 0))) (mOp opIx (mVar 1) (mRet (.int 2)))) (mVar 2)) (mOp opMul (mOp opSub (mOp opIx (mVar 0) (mRet (.int 1))) (mOp opIx (mVar 1) (mRet (.int 3)))) (mVar 3))) (mRet (.int 0)))))
def g_is_behind : List D → Rp := fnP 2 4 m_is_behind
theorem ok_is_behind (B : BB K mg cls) : DefP P w K mg base cls "is_behind" 2 ["one", "other"] g_is_behind :=
  okD (k := 1) (m := m_is_behind) B.d_is_behind sc_is_behind rfl (fun f cdv A outer s H E hr => by
    have q := Cur.pure (X := cxOf (L2.CX P w) P w K mg base N_is_behind "is_behind" (defScope s_is_behind) f cdv A outer s H E) (W := WofE E) (k := 1) (cls := cls) (takes_of rfl rfl rfl rfl) hr rfl rfl sc_is_behind.nd
    exact DSs.two (
    (dss_cons (ds_setG (dv_call q (ok_heading B) (by decide) (da_cons (dv_var 1) da_nil)) (dg_tup 2 q (dgs_cons (dg_name 2 q) (dgs_cons (dg_name 3 q) dgs_nil))))
    (dss_one (ds_ret (dv_cmp c_lt.i (dv_add q (dv_mul (dv_sub (dv_ix q (dv_var 0) dv_int) (dv_ix q (dv_var 1) dv_int)) (dv_var 2)) (dv_mul (dv_sub (dv_ix q (dv_var 0) dv_int) (dv_ix q (dv_var 1) dv_int)) (dv_var 3))) dv_int))))))
def m_lie_of : M Unit Out :=
  (mSeq (mSets (mSCons (mFz (mCall g_is_behind (mCons (mVar 0) (mCons (mVar 1) (mRet []))))) (mSCons (mFz (mCall g_is_behind (mCons (mVar 1) (mCons (mVar 0) (mRet []))))) mSNil)) [2, 3])
  (mSeq (mIf ((mB (mOp opEq (mVar 2) (mVar 3)))) (mReturn (mRet (.str "overlapped"))) (mRet .nx))
  (mReturn (mIf (mTruth (mVar 2)) (mRet (.str "behind")) (mRet (.str "ahead"))))))
def g_lie_of : List D → Rp := fnP 2 4 m_lie_of
theorem ok_lie_of (B : BB K mg cls) : DefP P w K mg base cls "lie_of" 3 ["one", "other"] g_lie_of :=
  okD (k := 2) (m := m_lie_of) B.d_lie_of sc_lie_of rfl (fun f cdv A outer s H E hr => by
    have q := Cur.pure (X := cxOf (L2.CX P w) P w K mg base N_lie_of "lie_of" (defScope s_lie_of) f cdv A outer s H E) (W := WofE E) (k := 2) (cls := cls) (takes_of rfl rfl rfl rfl) hr rfl rfl sc_lie_of.nd
    exact DSs.two (
    (dss_cons (ds_par 2 3 q (das_cons (de_fz (dv_call q (ok_is_behind B) (by decide) (da_cons (dv_var 0) (da_cons (dv_var 1) da_nil)))) (das_cons (de_fz (dv_call q (ok_is_behind B) (by decide) (da_cons (dv_var 1) (da_cons (dv_var 0) da_nil)))) das_nil)))
    (dss_cons (ds_if (dt_cmp (c_eq q).i (dv_var 2) (dv_var 3)) (dss_one (ds_ret dv_str)) dss_nil)
    (dss_one (ds_ret (dv_if (dt_tru q (dv_var 2)) dv_str dv_str)))))))
def m_lie : M Unit Out :=
  (mSeq (mExpr (mCall g_need_hulls (mCons (mTup (mCons (mVar 0) (mCons (mVar 1) (mRet [])))) (mRet []))))
  (mReturn (mCall g_lie_of (mCons (mVar 0) (mCons (mVar 1) (mRet []))))))
def g_lie : List D → Rp := fnP 2 2 m_lie
theorem ok_lie (B : BB K mg cls) : DefP P w K mg base cls "lie" 4 ["one", "other"] g_lie :=
  okD (k := 3) (m := m_lie) B.d_lie sc_lie rfl (fun f cdv A outer s H E hr => by
    have q := Cur.pure (X := cxOf (L2.CX P w) P w K mg base N_lie "lie" (defScope s_lie) f cdv A outer s H E) (W := WofE E) (k := 3) (cls := cls) (takes_of rfl rfl rfl rfl) hr rfl rfl sc_lie.nd
    exact DSs.two (
    (dss_cons (ds_expr (dv_call q (ok_need_hulls B) (by decide) (da_cons (dv_tup (da_cons (dv_var 0) (da_cons (dv_var 1) da_nil))) da_nil)))
    (dss_one (ds_ret (dv_call q (ok_lie_of B) (by decide) (da_cons (dv_var 0) (da_cons (dv_var 1) da_nil))))))))
def m_clear_of : M Unit Out :=
  (mSeq (mSets (mSCons (mFz (mCall g_tack_of (mCons (mVar 0) (mCons (mVar 2) (mRet []))))) (mSCons (mFz (mCall g_tack_of (mCons (mVar 1) (mCons (mVar 2) (mRet []))))) mSNil)) [3, 4])
  (mSeq (mIf ((mB (mOp opNe (mVar 3) (mVar 4)))) (mReturn (mTup (mCons (mRet (.int 10)) (mCons (mIf ((mB (mOp opEq (mVar 3) (mRet (.str "port"))))) (mRet (.int 0)) (mRet (.int 1))) (mRet []))))) (mRet .nx))
  (mSeq (mSet 5 (mFz (mCall g_lie_of (mCons (mVar 0) (mCons (mVar 1) (mRet []))))))
  (mSeq (mIf ((mB (mOp opNe (mVar 5) (mRet (.str "overlapped"))))) (mReturn (mTup (mCons (mRet (.int 12)) (mCons (mIf ((mB (mOp opEq (mVar 5) (mRet (.str "behind"))))) (mRet (.int 0)) (mRet (.int 1))) (mRet []))))) (mRet .nx))
  (mSeq (mSet 6 (mFz (mOp opAdd (mOp opMul (mOp opSub (mOp opIx (mVar 0) (mRet (.int 0))) (mOp opIx (mVar 1) (mRet (.int 0)))) (mOp opIx (mVar 2) (mRet (.int 0)))) (mOp opMul (mOp opSub (mOp opIx (mVar 0) (mRet (.int 1))) (mOp opIx (mVar 1) (mRet (.int 1)))) (mOp opIx (mVar 2) (mRet (.int 1)))))))
  (mSeq (mIf ((mB (mOp opEq (mVar 6) (mRet (.int 0))))) (mReturn (mRet .none)) (mRet .nx))
  (mReturn (mTup (mCons (mRet (.int 11)) (mCons (mIf ((mB (mOp opLt (mVar 6) (mRet (.int 0))))) (mRet (.int 0)) (mRet (.int 1))) (mRet [])))))))))))
def g_clear_of : List D → Rp := fnP 3 7 m_clear_of
theorem ok_clear_of (B : BB K mg cls) : DefP P w K mg base cls "clear_of" 4 ["one", "other", "wind"] g_clear_of :=
  okD (k := 3) (m := m_clear_of) B.d_clear_of sc_clear_of rfl (fun f cdv A outer s H E hr => by
    have q := Cur.pure (X := cxOf (L2.CX P w) P w K mg base N_clear_of "clear_of" (defScope s_clear_of) f cdv A outer s H E) (W := WofE E) (k := 3) (cls := cls) (takes_of rfl rfl rfl rfl) hr rfl rfl sc_clear_of.nd
    exact DSs.two (
    (dss_cons (ds_par 3 4 q (das_cons (de_fz (dv_call q (ok_tack_of B) (by decide) (da_cons (dv_var 0) (da_cons (dv_var 2) da_nil)))) (das_cons (de_fz (dv_call q (ok_tack_of B) (by decide) (da_cons (dv_var 1) (da_cons (dv_var 2) da_nil)))) das_nil)))
    (dss_cons (ds_if (dt_cmp (c_ne q).i (dv_var 3) (dv_var 4)) (dss_one (ds_ret (dv_tup (da_cons dv_int (da_cons (dv_if (dt_cmp (c_eq q).i (dv_var 3) dv_str) dv_int dv_int) da_nil))))) dss_nil)
    (dss_cons (ds_set 5 q (de_fz (dv_call q (ok_lie_of B) (by decide) (da_cons (dv_var 0) (da_cons (dv_var 1) da_nil)))))
    (dss_cons (ds_if (dt_cmp (c_ne q).i (dv_var 5) dv_str) (dss_one (ds_ret (dv_tup (da_cons dv_int (da_cons (dv_if (dt_cmp (c_eq q).i (dv_var 5) dv_str) dv_int dv_int) da_nil))))) dss_nil)
    (dss_cons (ds_set 6 q (de_fz (dv_add q (dv_mul (dv_sub (dv_ix q (dv_var 0) dv_int) (dv_ix q (dv_var 1) dv_int)) (dv_ix q (dv_var 2) dv_int)) (dv_mul (dv_sub (dv_ix q (dv_var 0) dv_int) (dv_ix q (dv_var 1) dv_int)) (dv_ix q (dv_var 2) dv_int)))))
    (dss_cons (ds_if (dt_cmp (c_eq q).i (dv_var 6) dv_int) (dss_one (ds_ret dv_non)) dss_nil)
    (dss_one (ds_ret (dv_tup (da_cons dv_int (da_cons (dv_if (dt_cmp c_lt.i (dv_var 6) dv_int) dv_int dv_int) da_nil)))))))))))))
def m_keeps_clear : M Unit Out :=
  (mSeq (mExpr (mCall g_need_hulls (mCons (mTup (mCons (mVar 0) (mCons (mVar 1) (mRet [])))) (mRet []))))
  (mSeq (mExpr (mCall g_need_wind (mCons (mVar 2) (mRet []))))
  (mReturn (mCall g_clear_of (mCons (mVar 0) (mCons (mVar 1) (mCons (mVar 2) (mRet []))))))))
def g_keeps_clear : List D → Rp := fnP 3 3 m_keeps_clear
theorem ok_keeps_clear (B : BB K mg cls) : DefP P w K mg base cls "keeps_clear" 5 ["one", "other", "wind"] g_keeps_clear :=
  okD (k := 4) (m := m_keeps_clear) B.d_keeps_clear sc_keeps_clear rfl (fun f cdv A outer s H E hr => by
    have q := Cur.pure (X := cxOf (L2.CX P w) P w K mg base N_keeps_clear "keeps_clear" (defScope s_keeps_clear) f cdv A outer s H E) (W := WofE E) (k := 4) (cls := cls) (takes_of rfl rfl rfl rfl) hr rfl rfl sc_keeps_clear.nd
    exact DSs.two (
    (dss_cons (ds_expr (dv_call q (ok_need_hulls B) (by decide) (da_cons (dv_tup (da_cons (dv_var 0) (da_cons (dv_var 1) da_nil))) da_nil)))
    (dss_cons (ds_expr (dv_call q (ok_need_wind B) (by decide) (da_cons (dv_var 2) da_nil)))
    (dss_one (ds_ret (dv_call q (ok_clear_of B) (by decide) (da_cons (dv_var 0) (da_cons (dv_var 1) (da_cons (dv_var 2) da_nil))))))))))
def m_is_protest : M Unit Out :=
  (mSeq (mIf ((mOr (mNot (mTruth (mIsi Ty.tuple (mVar 0)))) (mOr ((mB (mOp opNe (mUn opLen (mVar 0)) (mRet (.int 5))))) (mNot (mTruth (mCall g_is_whole (mCons (mOp opIx (mVar 0) (mRet (.int 0))) (mCons (mRet (.int 1)) (mCons (mRet (.int 999)) (mRet [])))))))))) (mReturn (mRet (.bool false))) (mRet .nx))
  (mSeq (mIf ((mOr (mNot (mTruth (mCall g_is_whole (mCons (mOp opIx (mVar 0) (mRet (.int 1))) (mCons (mRet (.int 0)) (mCons (mRet (.int 11)) (mRet []))))))) (mOr (mNot (mTruth (mCall g_is_boat (mCons (mOp opIx (mVar 0) (mRet (.int 2))) (mRet []))))) (mNot (mTruth (mCall g_is_boat (mCons (mOp opIx (mVar 0) (mRet (.int 3))) (mRet [])))))))) (mReturn (mRet (.bool false))) (mRet .nx))
  (mReturn (mAndV (mOp opNe (mOp opIx (mVar 0) (mRet (.int 2))) (mOp opIx (mVar 0) (mRet (.int 3)))) (mCall g_is_whole (mCons (mOp opIx (mVar 0) (mRet (.int 4))) (mCons (mRet (.int 0)) (mCons (mRet (.int 999)) (mRet [])))))))))
def g_is_protest : List D → Rp := fnP 1 1 m_is_protest
theorem ok_is_protest (B : BB K mg cls) : DefP P w K mg base cls "is_protest" 2 ["thing"] g_is_protest :=
  okD (k := 1) (m := m_is_protest) B.d_is_protest sc_is_protest rfl (fun f cdv A outer s H E hr => by
    have q := Cur.pure (X := cxOf (L2.CX P w) P w K mg base N_is_protest "is_protest" (defScope s_is_protest) f cdv A outer s H E) (W := WofE E) (k := 1) (cls := cls) (takes_of rfl rfl rfl rfl) hr rfl rfl sc_is_protest.nd
    exact DSs.two (
    (dss_cons (ds_if (dt_w (dw_or (dt_not (dt_tru q (dv_isi q Ty.tuple B.n_isinstance B.n_tuple PyProof.Rows.boot_tuple (dv_var 0)))) (dw_or (dt_cmp (c_ne q).i (dv_len q B.n_len (dv_var 0)) dv_int) (dw_or1 (dt_not (dt_tru q (dv_call q (ok_is_whole B) (by decide) (da_cons (dv_ix q (dv_var 0) dv_int) (da_cons dv_int (da_cons dv_int da_nil)))))))))) (dss_one (ds_ret dv_bl)) dss_nil)
    (dss_cons (ds_if (dt_w (dw_or (dt_not (dt_tru q (dv_call q (ok_is_whole B) (by decide) (da_cons (dv_ix q (dv_var 0) dv_int) (da_cons dv_int (da_cons dv_int da_nil)))))) (dw_or (dt_not (dt_tru q (dv_call q (ok_is_boat B) (by decide) (da_cons (dv_ix q (dv_var 0) dv_int) da_nil)))) (dw_or1 (dt_not (dt_tru q (dv_call q (ok_is_boat B) (by decide) (da_cons (dv_ix q (dv_var 0) dv_int) da_nil)))))))) (dss_one (ds_ret dv_bl)) dss_nil)
    (dss_one (ds_ret (dv_and (dv_cmp (c_ne q).i (dv_ix q (dv_var 0) dv_int) (dv_ix q (dv_var 0) dv_int)) (dv_one (dv_call q (ok_is_whole B) (by decide) (da_cons (dv_ix q (dv_var 0) dv_int) (da_cons dv_int (da_cons dv_int da_nil))))))))))))
def m_is_facts : M Unit Out :=
  (mSeq (mIf ((mOr (mNot (mTruth (mIsi Ty.tuple (mVar 0)))) (mOr ((mB (mOp opNe (mUn opLen (mVar 0)) (mRet (.int 4))))) (mOr (mNot (mTruth (mCall g_is_hull (mCons (mOp opIx (mVar 0) (mRet (.int 0))) (mRet []))))) (mNot (mTruth (mCall g_is_hull (mCons (mOp opIx (mVar 0) (mRet (.int 1))) (mRet []))))))))) (mReturn (mRet (.bool false))) (mRet .nx))
  (mReturn (mAndV (mCall g_is_wind (mCons (mOp opIx (mVar 0) (mRet (.int 2))) (mRet []))) (mIsi Ty.bool (mOp opIx (mVar 0) (mRet (.int 3)))))))
def g_is_facts : List D → Rp := fnP 1 1 m_is_facts
theorem ok_is_facts (B : BB K mg cls) : DefP P w K mg base cls "is_facts" 3 ["thing"] g_is_facts :=
  okD (k := 2) (m := m_is_facts) B.d_is_facts sc_is_facts rfl (fun f cdv A outer s H E hr => by
    have q := Cur.pure (X := cxOf (L2.CX P w) P w K mg base N_is_facts "is_facts" (defScope s_is_facts) f cdv A outer s H E) (W := WofE E) (k := 2) (cls := cls) (takes_of rfl rfl rfl rfl) hr rfl rfl sc_is_facts.nd
    exact DSs.two (
    (dss_cons (ds_if (dt_w (dw_or (dt_not (dt_tru q (dv_isi q Ty.tuple B.n_isinstance B.n_tuple PyProof.Rows.boot_tuple (dv_var 0)))) (dw_or (dt_cmp (c_ne q).i (dv_len q B.n_len (dv_var 0)) dv_int) (dw_or (dt_not (dt_tru q (dv_call q (ok_is_hull B) (by decide) (da_cons (dv_ix q (dv_var 0) dv_int) da_nil)))) (dw_or1 (dt_not (dt_tru q (dv_call q (ok_is_hull B) (by decide) (da_cons (dv_ix q (dv_var 0) dv_int) da_nil))))))))) (dss_one (ds_ret dv_bl)) dss_nil)
    (dss_one (ds_ret (dv_and (dv_call q (ok_is_wind B) (by decide) (da_cons (dv_ix q (dv_var 0) dv_int) da_nil)) (dv_one (dv_isi q Ty.bool B.n_isinstance B.n_bool PyProof.Rows.boot_bool (dv_ix q (dv_var 0) dv_int)))))))))
def m_heard_of : M Unit Out :=
  (mSeq (mSet 2 (mFz (mIf (mTruth (mOp opIx (mVar 1) (mRet (.int 3)))) (mCall g_clear_of (mCons (mOp opIx (mVar 1) (mRet (.int 0))) (mCons (mOp opIx (mVar 1) (mRet (.int 1))) (mCons (mOp opIx (mVar 1) (mRet (.int 2))) (mRet []))))) (mRet .none))))
  (mReturn (mIf ((mB (mOp opIs (mVar 2) (mRet .none)))) (mTup (mCons (mRet (.str "none")) (mRet []))) (mTup (mCons (mRet (.str "DSQ")) (mCons (mOp opIx (mVar 0) (mOp opAdd (mRet (.int 2)) (mOp opIx (mVar 2) (mRet (.int 1))))) (mCons (mOp opIx (mVar 2) (mRet (.int 0))) (mRet []))))))))
def g_heard_of : List D → Rp := fnP 2 3 m_heard_of
theorem ok_heard_of (B : BB K mg cls) : DefP P w K mg base cls "heard_of" 5 ["protest", "found"] g_heard_of :=
  okD (k := 4) (m := m_heard_of) B.d_heard_of sc_heard_of rfl (fun f cdv A outer s H E hr => by
    have q := Cur.pure (X := cxOf (L2.CX P w) P w K mg base N_heard_of "heard_of" (defScope s_heard_of) f cdv A outer s H E) (W := WofE E) (k := 4) (cls := cls) (takes_of rfl rfl rfl rfl) hr rfl rfl sc_heard_of.nd
    exact DSs.two (
    (dss_cons (ds_set 2 q (de_fz (dv_if (dt_tru q (dv_ix q (dv_var 1) dv_int)) (dv_call q (ok_clear_of B) (by decide) (da_cons (dv_ix q (dv_var 1) dv_int) (da_cons (dv_ix q (dv_var 1) dv_int) (da_cons (dv_ix q (dv_var 1) dv_int) da_nil)))) dv_non)))
    (dss_one (ds_ret (dv_if (dt_cmp c_is (dv_var 2) dv_non) (dv_tup (da_cons dv_str da_nil)) (dv_tup (da_cons dv_str (da_cons (dv_ix q (dv_var 0) (dv_add q dv_int (dv_ix q (dv_var 2) dv_int))) (da_cons (dv_ix q (dv_var 2) dv_int) da_nil))))))))))
def m_heard : M Unit Out :=
  (mSeq (mIf (mNot (mTruth (mCall g_is_protest (mCons (mVar 0) (mRet []))))) (mRaise 15) (mRet .nx))
  (mSeq (mIf (mNot (mTruth (mCall g_is_facts (mCons (mVar 1) (mRet []))))) (mRaise 16) (mRet .nx))
  (mReturn (mCall g_heard_of (mCons (mVar 0) (mCons (mVar 1) (mRet [])))))))
def g_heard : List D → Rp := fnP 2 2 m_heard
theorem ok_heard (B : BB K mg cls) : DefP P w K mg base cls "heard" 6 ["protest", "found"] g_heard :=
  okD (k := 5) (m := m_heard) B.d_heard sc_heard rfl (fun f cdv A outer s H E hr => by
    have q := Cur.pure (X := cxOf (L2.CX P w) P w K mg base N_heard "heard" (defScope s_heard) f cdv A outer s H E) (W := WofE E) (k := 5) (cls := cls) (takes_of rfl rfl rfl rfl) hr rfl rfl sc_heard.nd
    exact DSs.two (
    (dss_cons (ds_if (dt_not (dt_tru q (dv_call q (ok_is_protest B) (by decide) (da_cons (dv_var 0) da_nil)))) (dss_one (ds_raise 15 q (B.e_NoProtest))) dss_nil)
    (dss_cons (ds_if (dt_not (dt_tru q (dv_call q (ok_is_facts B) (by decide) (da_cons (dv_var 1) da_nil)))) (dss_one (ds_raise 16 q (B.e_NoFacts))) dss_nil)
    (dss_one (ds_ret (dv_call q (ok_heard_of B) (by decide) (da_cons (dv_var 0) (da_cons (dv_var 1) da_nil)))))))))
theorem ok__law_draw (B : BB K mg cls) : DefX P w K mg base "_law_draw" 1 ["_law_script", "_law_town", "_law_many"] (spX (CTs K cls) gDraw) :=
  okDraw B.d__law_draw sc__law_draw rfl (fun f cdv A outer s H E hr =>
    pss_cons (ps_if (pt_cmpR op_gt (pe_ix ix_list (pv 1) pe_int (fun _ _ => rfl)) pe_int (nomark _))
        (pss_cons (ps_set (i := 3) sc__law_draw.nd rfl (Or.inl rfl) (pe_op op_mod (pe_ix ix_list (pv 1) pe_int (fun _ _ => rfl)) (pv 2)))
        (pss_cons (ps_asg (pe_op op_fdivW (pe_ix ix_list (pv 1) pe_int (fun _ _ => rfl)) (pv 2)) (pg_sub (pv 1) pe_int set_list))
        (pss_one (ps_ret (pv 3))))) pss_nil)
      (pss_cons (ps_set (i := 4) sc__law_draw.nd rfl (Or.inl rfl) (pe_ix ix_list (pv 1) pe_int (fun _ _ => rfl)))
      (pss_cons (ps_augS (pv 1) pe_int pget_list pe_int ip_add set_list)
      (pss_cons (ps_if (pt_cmpR (op_eqD hr.units) (pv 0) (pe_lst pa_nil) (nomark _)) (pss_one (ps_ret (pe_op op_mod (pv 4) (pv 2)))) pss_nil)
      (pss_cons (ps_if (PW.pt (pw_and (pt_cmpR op_lt (pv 4) (pe_lenS B.n_len rfl (Or.inl rfl) rfl rfl) (nomark _)) (pw_and1 (pt_cmpR op_ge (pe_ix ix_list (pv 0) (pv 4) (fun _ _ => rfl)) (pe_op op_pow pe_int pe_int) (nomark _)))))
        (pss_cons (ps_asg (pe_op op_mod (pe_op op_fdivW (pe_ix ix_list (pv 0) (pv 4) (fun _ _ => rfl)) (pv 2)) (pe_op op_mulW (pe_op op_pow pe_int pe_int) (pe_op op_pow pe_int pe_int))) (pg_sub (pv 1) pe_int set_list))
        (pss_one (ps_ret (pe_op op_mod (pe_ix ix_list (pv 0) (pv 4) (fun _ _ => rfl)) (pv 2))))) pss_nil)
      (pss_cons (ps_set (i := 5) sc__law_draw.nd rfl (Or.inl rfl) (pe_op op_mod (pe_op op_add (pe_op op_add (pe_op op_mul (pe_ix ix_list (pv 0) (pe_op op_mod (pv 4) (pe_lenS B.n_len rfl (Or.inl rfl) rfl rfl)) (fun _ _ => rfl)) pe_int) (pe_op op_mul pe_int (pv 4))) pe_int) pe_int))
      (pss_one (ps_ret (pe_op op_mod (pe_op op_mod (pe_op op_mod (pe_op op_pow (pv 5) pe_int) pe_int) pe_int) (pv 2))))))))))
def g__law_draw : List Slot → Town → Rt Town := gDraw
def m__law_pick : M Town Out :=
  (mReturn (mOp opIx (mVar 2) (mCallT g__law_draw (mSCons (mPt 0) (mSCons (mPt 1) (mSCons (mFz (mUn opLen (mVar 2))) mSNil))))))
def g__law_pick : List Slot → Town → Rt Town := fnT 3 3 m__law_pick
theorem ok__law_pick (B : BB K mg cls) : DefX P w K mg base "_law_pick" 2 ["_law_script", "_law_town", "_law_some"] (spX (CTs K cls) g__law_pick) :=
  okDT (k := 1) (m := m__law_pick) B.d__law_pick sc__law_pick rfl (fun f cdv A outer s H E hr => by
    exact DSs.twoT (cts_any K cls) (fun C hC =>
    have q := Cur.town (X := cxOf (L2.CX P w) P w K mg base N__law_pick "_law_pick" (defScope s__law_pick) f cdv A outer s H E) (W := WofE E) (k := 1) hC (takes_of rfl rfl rfl rfl) hr rfl rfl sc__law_pick.nd
    (dss_one (ds_ret (dv_ix q (dv_var 2) (dv_callT q hC (ok__law_draw B) (by decide) (das_cons (de_pt 0) (das_cons (de_pt 1) (das_cons (de_fz (dv_len q B.n_len (dv_var 2))) das_nil)))))))))
def m__law_which : M Nat Out :=
  (mSeq (mSet 1 (mLst (mCons (mIsW (tabW okcW 1) 0) (mCons (mIsW (tabW okcW 2) 0) (mCons (mIsW (tabW okcW 3) 0) (mCons (mIsW (tabW okcW 4) 0) (mRet [])))))))
  (mSeq (mExpr (mExtend 1 (mFrz (mLst (mCons (mIsW (tabW okcW 5) 0) (mCons (mIsW (tabW okcW 6) 0) (mCons (mIsW (tabW okcW 7) 0) (mCons (mIsW (tabW okcW 8) 0) (mRet [])))))))))
  (mSeq (mExpr (mExtend 1 (mFrz (mLst (mCons (mIsW (tabW okcW 9) 0) (mCons (mIsW (tabW okcW 10) 0) (mCons (mIsW (tabW okcW 11) 0) (mCons (mIsW (tabW okcW 12) 0) (mRet [])))))))))
  (mSeq (mExpr (mExtend 1 (mFrz (mLst (mCons (mIsW (tabW okcW 13) 0) (mCons (mIsW (tabW okcW 14) 0) (mCons (mIsW (tabW okcW 15) 0) (mCons (mIsW (tabW okcW 16) 0) (mRet [])))))))))
  (mSeq (mExpr (mExtend 1 (mFrz (mLst (mCons (mIsW (tabW okcW 17) 0) (mCons (mIsW (tabW okcW 18) 0) (mCons (mIsW (tabW okcW 19) 0) (mCons (mIsW (tabW okcW 20) 0) (mRet [])))))))))
  (mSeq (mExpr (mAppend 1 (mIsW (tabW okcW 21) 0)))
  (mSeq (mIf ((mOr ((mB (mOp opNe (mBmP opCount 1 (mRet (.bool true))) (mRet (.int 1))))) (mNot (mTruth (mIsW (tabV okcW) 0))))) (mReturn (mTup (mCons (mRet (.str "refused")) (mCons (mUn opNeg (mRet (.int 1))) (mRet []))))) (mRet .nx))
  (mReturn (mTup (mCons (mRet (.str "refused")) (mCons (mBmP opIndex 1 (mRet (.bool true))) (mRet []))))))))))))
def g__law_which : List Slot → Nat → Rt Nat := fnT 1 2 m__law_which
theorem okw__law_which (B : BB K mg cls) : DefW P w K mg base cls "_law_which" 1 ["_law_e"] okcW g__law_which :=
  ⟨fun pn c ho hz hf => by
    obtain ⟨f, fd, F, hm, hb⟩ := B.d__law_which
    obtain ⟨aa, oe⟩ := pn
    exact ⟨f, fd, okWh (k := 0) (m := m__law_which) F sc__law_which (aa, oe) (fun cdv A fr s H E hr => by
    have q : CurB false (L2H.cxH (L2.CX P w) P w K mg base N__law_which "_law_which" (defScope s__law_which) f cdv A fr s H E (aa, oe)) (CWh K cls aa c) (WofE E) 0 cls K := ⟨by have := hr.un; show (A.deeper _).units + 64 < cLine; omega, rfl, rfl, sc__law_which.nd, rfl, fun z => nomatch z⟩
    exact DSs.twoE ((dss_cons (ds_set 1 q (de_lst (da_cons (dv_isW 0 1 (tabW okcW 1) rfl (B.w_cc c ho) hz hf List.mem_cons_self B.n_isinstance (B.e_NoShare).g (tab_of ho (B.w_k1 c ho))) (da_cons (dv_isW 0 2 (tabW okcW 2) rfl (B.w_cc c ho) hz hf List.mem_cons_self B.n_isinstance (B.e_NoTide).g (tab_of ho (B.w_k2 c ho))) (da_cons (dv_isW 0 3 (tabW okcW 3) rfl (B.w_cc c ho) hz hf List.mem_cons_self B.n_isinstance (B.e_NoNumber).g (tab_of ho (B.w_k3 c ho))) (da_cons (dv_isW 0 4 (tabW okcW 4) rfl (B.w_cc c ho) hz hf List.mem_cons_self B.n_isinstance (B.e_NoTrack).g (tab_of ho (B.w_k4 c ho))) da_nil))))))
    (dss_cons (ds_expr (dv_extend q 1 (pv 1) (dv_frz (de_lst (da_cons (dv_isW 0 5 (tabW okcW 5) rfl (B.w_cc c ho) hz hf List.mem_cons_self B.n_isinstance (B.e_NoGate).g (tab_of ho (B.w_k5 c ho))) (da_cons (dv_isW 0 6 (tabW okcW 6) rfl (B.w_cc c ho) hz hf List.mem_cons_self B.n_isinstance (B.e_NoCourse).g (tab_of ho (B.w_k6 c ho))) (da_cons (dv_isW 0 7 (tabW okcW 7) rfl (B.w_cc c ho) hz hf List.mem_cons_self B.n_isinstance (B.e_NoRule).g (tab_of ho (B.w_k7 c ho))) (da_cons (dv_isW 0 8 (tabW okcW 8) rfl (B.w_cc c ho) hz hf List.mem_cons_self B.n_isinstance (B.e_NoEntries).g (tab_of ho (B.w_k8 c ho))) da_nil))))))))
    (dss_cons (ds_expr (dv_extend q 1 (pv 1) (dv_frz (de_lst (da_cons (dv_isW 0 9 (tabW okcW 9) rfl (B.w_cc c ho) hz hf List.mem_cons_self B.n_isinstance (B.e_NoRace).g (tab_of ho (B.w_k9 c ho))) (da_cons (dv_isW 0 10 (tabW okcW 10) rfl (B.w_cc c ho) hz hf List.mem_cons_self B.n_isinstance (B.e_NoSeries).g (tab_of ho (B.w_k10 c ho))) (da_cons (dv_isW 0 11 (tabW okcW 11) rfl (B.w_cc c ho) hz hf List.mem_cons_self B.n_isinstance (B.e_NoDrops).g (tab_of ho (B.w_k11 c ho))) (da_cons (dv_isW 0 12 (tabW okcW 12) rfl (B.w_cc c ho) hz hf List.mem_cons_self B.n_isinstance (B.e_NoBoat).g (tab_of ho (B.w_k12 c ho))) da_nil))))))))
    (dss_cons (ds_expr (dv_extend q 1 (pv 1) (dv_frz (de_lst (da_cons (dv_isW 0 13 (tabW okcW 13) rfl (B.w_cc c ho) hz hf List.mem_cons_self B.n_isinstance (B.e_NoHull).g (tab_of ho (B.w_k13 c ho))) (da_cons (dv_isW 0 14 (tabW okcW 14) rfl (B.w_cc c ho) hz hf List.mem_cons_self B.n_isinstance (B.e_NoWind).g (tab_of ho (B.w_k14 c ho))) (da_cons (dv_isW 0 15 (tabW okcW 15) rfl (B.w_cc c ho) hz hf List.mem_cons_self B.n_isinstance (B.e_NoProtest).g (tab_of ho (B.w_k15 c ho))) (da_cons (dv_isW 0 16 (tabW okcW 16) rfl (B.w_cc c ho) hz hf List.mem_cons_self B.n_isinstance (B.e_NoFacts).g (tab_of ho (B.w_k16 c ho))) da_nil))))))))
    (dss_cons (ds_expr (dv_extend q 1 (pv 1) (dv_frz (de_lst (da_cons (dv_isW 0 17 (tabW okcW 17) rfl (B.w_cc c ho) hz hf List.mem_cons_self B.n_isinstance (B.e_NoOutcome).g (tab_of ho (B.w_k17 c ho))) (da_cons (dv_isW 0 18 (tabW okcW 18) rfl (B.w_cc c ho) hz hf List.mem_cons_self B.n_isinstance (B.e_Taken).g (tab_of ho (B.w_k18 c ho))) (da_cons (dv_isW 0 19 (tabW okcW 19) rfl (B.w_cc c ho) hz hf List.mem_cons_self B.n_isinstance (B.e_NoThing).g (tab_of ho (B.w_k19 c ho))) (da_cons (dv_isW 0 20 (tabW okcW 20) rfl (B.w_cc c ho) hz hf List.mem_cons_self B.n_isinstance (B.e_NoDeed).g (tab_of ho (B.w_k20 c ho))) da_nil))))))))
    (dss_cons (ds_expr (dv_append q 1 (pv 1) (dv_isW 0 21 (tabW okcW 21) rfl (B.w_cc c ho) hz hf List.mem_cons_self B.n_isinstance (B.e_NoText).g (tab_of ho (B.w_k21 c ho)))))
    (dss_cons (ds_if (dt_w (dw_or (dt_cmp (c_ne q).i (dv_countP q 1 (pv 1) dv_bl) dv_int) (dw_or1 (dt_not (dt_tru q (dv_isWV 0 (tabV okcW) rfl (B.w_cc c ho) hz hf List.mem_cons_self B.n_isinstance B.n_ValueError (tabV_of ho (B.w_kv c ho)))))))) (dss_one (ds_ret (dv_tup (da_cons dv_str (da_cons (dv_neg dv_int) da_nil))))) dss_nil)
    (dss_one (ds_ret (dv_tup (da_cons dv_str (da_cons (dv_indexP q 1 (pv 1) dv_bl) da_nil)))))))))))))), hm, F.kp, hb⟩, B.w_ex⟩
def m__law_ask : M Unit Out :=
  (mTryW 4 okcW g__law_which (mSeq (mIf ((mB (mOp opEq (mVar 0) (mRet (.int 0))))) (mReturn (mCall g_tack (mCons (mVar 1) (mCons (mVar 3) (mRet []))))) (mRet .nx))
  (mSeq (mIf ((mB (mOp opEq (mVar 0) (mRet (.int 1))))) (mReturn (mCall g_lie (mCons (mVar 1) (mCons (mVar 2) (mRet []))))) (mRet .nx))
  (mReturn (mIf ((mB (mOp opEq (mVar 0) (mRet (.int 2))))) (mCall g_keeps_clear (mCons (mVar 1) (mCons (mVar 2) (mCons (mVar 3) (mRet []))))) (mCall g_heard (mCons (mVar 1) (mCons (mVar 2) (mRet [])))))))))
def g__law_ask : List D → Rp := fnP 4 5 m__law_ask
theorem ok__law_ask (B : BB K mg cls) : DefP P w K mg base cls "_law_ask" 7 ["_law_what", "_law_one", "_law_other", "_law_third"] g__law_ask :=
  okD (k := 6) (m := m__law_ask) B.d__law_ask sc__law_ask rfl (fun f cdv A outer s H E hr => by
    have q := Cur.pure (X := cxOf (L2.CX P w) P w K mg base N__law_ask "_law_ask" (defScope s__law_ask) f cdv A outer s H E) (W := WofE E) (k := 6) (cls := cls) (takes_of rfl rfl rfl rfl) hr rfl rfl sc__law_ask.nd
    exact DSs.two (
    (dss_one (ds_tryW 4 q (okw__law_which B) (by decide) (B.e_RaceError).g (fun W pn xe q => (dss_cons (ds_if (dt_cmp (c_eq q).i (dv_var 0) dv_int) (dss_one (ds_ret (dv_call q (ok_tack B) (by decide) (da_cons (dv_var 1) (da_cons (dv_var 3) da_nil))))) dss_nil)
    (dss_cons (ds_if (dt_cmp (c_eq q).i (dv_var 0) dv_int) (dss_one (ds_ret (dv_call q (ok_lie B) (by decide) (da_cons (dv_var 1) (da_cons (dv_var 2) da_nil))))) dss_nil)
    (dss_one (ds_ret (dv_if (dt_cmp (c_eq q).i (dv_var 0) dv_int) (dv_call q (ok_keeps_clear B) (by decide) (da_cons (dv_var 1) (da_cons (dv_var 2) (da_cons (dv_var 3) da_nil)))) (dv_call q (ok_heard B) (by decide) (da_cons (dv_var 1) (da_cons (dv_var 2) da_nil)))))))))))))
def m__law_protests : M Unit Out :=
  (mSeq (mSet 2 (mLst (mCons (mRet .none) (mCons (mSl (mVar 0) (mRet none) (mSome (mRet (.int 4)))) (mCons (mFrz (mListOf (mVar 0))) (mCons (mOp opAdd (mTup (mCons (mRet (.int 0)) (mRet []))) (mSl (mVar 0) (mSome (mRet (.int 1))) (mRet none))) (mCons (mOp opAdd (mTup (mCons (mRet (.int 1000)) (mRet []))) (mSl (mVar 0) (mSome (mRet (.int 1))) (mRet none))) (mCons (mOp opAdd (mOp opAdd (mSl (mVar 0) (mRet none) (mSome (mRet (.int 1)))) (mTup (mCons (mRet (.int 12)) (mRet [])))) (mSl (mVar 0) (mSome (mRet (.int 2))) (mRet none))) (mRet [])))))))))
  (mSeq (mExpr (mExtend 2 (mFrz (mLst (mCons (mOp opAdd (mOp opAdd (mSl (mVar 0) (mRet none) (mSome (mRet (.int 2)))) (mTup (mCons (mRet (.str "bob")) (mRet [])))) (mSl (mVar 0) (mSome (mRet (.int 3))) (mRet none))) (mRet []))))))
  (mSeq (mExpr (mExtend 2 (mFrz (mLst (mCons (mOp opAdd (mOp opAdd (mSl (mVar 0) (mRet none) (mSome (mRet (.int 2)))) (mTup (mCons (mRet (.str "A")) (mRet [])))) (mSl (mVar 0) (mSome (mRet (.int 3))) (mRet none))) (mCons (mOp opAdd (mSl (mVar 0) (mRet none) (mSome (mRet (.int 4)))) (mTup (mCons (mRet (.int 1000)) (mRet [])))) (mCons (mOp opAdd (mSl (mVar 0) (mRet none) (mSome (mRet (.int 4)))) (mTup (mCons (mUn opNeg (mRet (.int 1))) (mRet [])))) (mCons (mOp opAdd (mSl (mVar 0) (mRet none) (mSome (mRet (.int 4)))) (mTup (mCons (mRet (.bool true)) (mRet [])))) (mRet [])))))))))
  (mSeq (mExpr (mExtend 2 (mFrz (mLst (mCons (mOp opAdd (mTup (mCons (mRet (.bool true)) (mRet []))) (mSl (mVar 0) (mSome (mRet (.int 1))) (mRet none))) (mRet []))))))
  (mSeq (mExpr (mExtend 2 (mFrz (mLst (mCons (mOp opAdd (mOp opAdd (mSl (mVar 0) (mRet none) (mSome (mRet (.int 1)))) (mTup (mCons (mUn opNeg (mRet (.int 1))) (mRet [])))) (mSl (mVar 0) (mSome (mRet (.int 2))) (mRet none))) (mCons (mOp opAdd (mSl (mVar 0) (mRet none) (mSome (mRet (.int 3)))) (mTup (mCons (mRet (.str "")) (mCons (mRet (.int 20)) (mRet []))))) (mRet [])))))))
  (mSeq (mFor (mIter (mVar 2)) (pName 3) (mIf ((mOr ((mB (mOp opIsNot (mCall g_is_protest (mCons (mVar 3) (mRet []))) (mRet (.bool false))))) ((mB (mOp opNe (mCall g__law_ask (mCons (mRet (.int 3)) (mCons (mVar 3) (mCons (mVar 1) (mCons (mRet .none) (mRet [])))))) (mTup (mCons (mRet (.str "refused")) (mCons (mRet (.int 14)) (mRet []))))))))) (mReturn (mRet (.bool false))) (mRet .nx)))
  (mReturn (mUn opAll (mFrz (mLc [3] (mIter (mTup (mCons (mVar 0) (mCons (mTup (mCons (mRet (.int 1)) (mCons (mRet (.int 0)) (mCons (mRet (.str "a")) (mCons (mRet (.str "abcdefgh")) (mCons (mRet (.int 0)) (mRet []))))))) (mCons (mTup (mCons (mRet (.int 999)) (mCons (mRet (.int 11)) (mCons (mRet (.str "ab")) (mCons (mRet (.str "a")) (mCons (mRet (.int 999)) (mRet []))))))) (mRet [])))))) (pName 3) (mRet true) (mCall g_is_protest (mCons (mVar 3) (mRet [])))))))))))))
def g__law_protests : List D → Rp := fnP 2 4 m__law_protests
theorem ok__law_protests (B : BB K mg cls) : DefP P w K mg base cls "_law_protests" 8 ["_law_good", "_law_facts"] g__law_protests :=
  okD (k := 7) (m := m__law_protests) B.d__law_protests sc__law_protests rfl (fun f cdv A outer s H E hr => by
    have pw : PassesOwn (model P w) (A.deeper (PyProof.Rows.envOfC "_law_protests" (defScope s__law_protests) s.heap.objs.size f cdv)) (PyProof.Rows.envOfC "_law_protests" (defScope s__law_protests) s.heap.objs.size f cdv) (cxOf (L2.CX P w) P w K mg base N__law_protests "_law_protests" (defScope s__law_protests) f cdv A outer s H E).xe := passes_of (X := cxOf (L2.CX P w) P w K mg base N__law_protests "_law_protests" (defScope s__law_protests) f cdv A outer s H E) rfl
    have q := Cur.pure (X := cxOf (L2.CX P w) P w K mg base N__law_protests "_law_protests" (defScope s__law_protests) f cdv A outer s H E) (W := WofE E) (k := 7) (cls := cls) (takes_of rfl rfl rfl rfl) hr rfl rfl sc__law_protests.nd
    exact DSs.two (
    (dss_cons (ds_set 2 q (de_lst (da_cons dv_non (da_cons (dv_sl q (dv_var 0) do_none (do_some dv_int)) (da_cons (dv_frz (de_list q B.n_list (dv_var 0))) (da_cons (dv_add q (dv_tup (da_cons dv_int da_nil)) (dv_sl q (dv_var 0) (do_some dv_int) do_none)) (da_cons (dv_add q (dv_tup (da_cons dv_int da_nil)) (dv_sl q (dv_var 0) (do_some dv_int) do_none)) (da_cons (dv_add q (dv_add q (dv_sl q (dv_var 0) do_none (do_some dv_int)) (dv_tup (da_cons dv_int da_nil))) (dv_sl q (dv_var 0) (do_some dv_int) do_none)) da_nil))))))))
    (dss_cons (ds_expr (dv_extend q 2 (pv 2) (dv_frz (de_lst (da_cons (dv_add q (dv_add q (dv_sl q (dv_var 0) do_none (do_some dv_int)) (dv_tup (da_cons dv_str da_nil))) (dv_sl q (dv_var 0) (do_some dv_int) do_none)) da_nil)))))
    (dss_cons (ds_expr (dv_extend q 2 (pv 2) (dv_frz (de_lst (da_cons (dv_add q (dv_add q (dv_sl q (dv_var 0) do_none (do_some dv_int)) (dv_tup (da_cons dv_str da_nil))) (dv_sl q (dv_var 0) (do_some dv_int) do_none)) (da_cons (dv_add q (dv_sl q (dv_var 0) do_none (do_some dv_int)) (dv_tup (da_cons dv_int da_nil))) (da_cons (dv_add q (dv_sl q (dv_var 0) do_none (do_some dv_int)) (dv_tup (da_cons (dv_neg dv_int) da_nil))) (da_cons (dv_add q (dv_sl q (dv_var 0) do_none (do_some dv_int)) (dv_tup (da_cons dv_bl da_nil))) da_nil))))))))
    (dss_cons (ds_expr (dv_extend q 2 (pv 2) (dv_frz (de_lst (da_cons (dv_add q (dv_tup (da_cons dv_bl da_nil)) (dv_sl q (dv_var 0) (do_some dv_int) do_none)) da_nil)))))
    (dss_cons (ds_expr (dv_extend q 2 (pv 2) (dv_frz (de_lst (da_cons (dv_add q (dv_add q (dv_sl q (dv_var 0) do_none (do_some dv_int)) (dv_tup (da_cons (dv_neg dv_int) da_nil))) (dv_sl q (dv_var 0) (do_some dv_int) do_none)) (da_cons (dv_add q (dv_sl q (dv_var 0) do_none (do_some dv_int)) (dv_tup (da_cons dv_str (da_cons dv_int da_nil)))) da_nil))))))
    (dss_cons (ds_for q pw (di_seq q (dv_var 2)) (dg_name 3 q) (dss_one (ds_if (dt_w (dw_or (dt_cmp c_isnot (dv_call q (ok_is_protest B) (by decide) (da_cons (dv_var 3) da_nil)) dv_bl) (dw_or1 (dt_cmp (c_ne q).i (dv_call q (ok__law_ask B) (by decide) (da_cons dv_int (da_cons (dv_var 3) (da_cons (dv_var 1) (da_cons dv_non da_nil))))) (dv_tup (da_cons dv_str (da_cons dv_int da_nil))))))) (dss_one (ds_ret dv_bl)) dss_nil)))
    (dss_one (ds_ret (dv_all q B.n_all (dv_frz (de_lc q [3] rfl (by decide) (di_seq q (dv_tup (da_cons (dv_var 0) (da_cons (dv_tup (da_cons dv_int (da_cons dv_int (da_cons dv_str (da_cons dv_str (da_cons dv_int da_nil)))))) (da_cons (dv_tup (da_cons dv_int (da_cons dv_int (da_cons dv_str (da_cons dv_str (da_cons dv_int da_nil)))))) da_nil))))) (blkOk_by (own := [("_law_one", 3)]) (N := N__law_protests) (sc := defScope s__law_protests) (by decide +kernel)) (fun _ _ _ _ _ q1 => (dg_name 3 q1)) (fun _ _ _ _ _ q1 => dts_nil) (fun _ _ _ _ _ q1 => (dv_call q1 (ok_is_protest B) (by decide) (da_cons (dv_var 3) da_nil))))))))))))))))
def m__law_far : M Unit Out :=
  (mSeq (mIf ((mOr ((mB (mOp opNe (mCall g__law_ask (mCons (mRet (.int 3)) (mCons (mVar 2) (mCons (mTup (mCons (mVar 0) (mCons (mVar 0) (mCons (mVar 1) (mCons (mRet (.bool true)) (mRet [])))))) (mCons (mRet .none) (mRet [])))))) (mTup (mCons (mRet (.str "none")) (mRet [])))))) ((mB (mOp opIsNot (mCall g__law_ask (mCons (mRet (.int 2)) (mCons (mVar 0) (mCons (mVar 0) (mCons (mVar 1) (mRet [])))))) (mRet .none)))))) (mReturn (mRet (.bool false))) (mRet .nx))
  (mReturn (mOp opEq (mCall g__law_ask (mCons (mRet (.int 0)) (mCons (mTup (mCons (mUn opNeg (mRet (.int 1000))) (mCons (mRet (.int 1000)) (mCons (mRet (.int 1000)) (mCons (mUn opNeg (mRet (.int 1000))) (mRet [])))))) (mCons (mRet .none) (mCons (mTup (mCons (mRet (.int 9)) (mCons (mUn opNeg (mRet (.int 9))) (mRet [])))) (mRet [])))))) (mRet (.str "starboard")))))
def g__law_far : List D → Rp := fnP 3 3 m__law_far
theorem ok__law_far (B : BB K mg cls) : DefP P w K mg base cls "_law_far" 8 ["_law_hull", "_law_wind", "_law_good"] g__law_far :=
  okD (k := 7) (m := m__law_far) B.d__law_far sc__law_far rfl (fun f cdv A outer s H E hr => by
    have q := Cur.pure (X := cxOf (L2.CX P w) P w K mg base N__law_far "_law_far" (defScope s__law_far) f cdv A outer s H E) (W := WofE E) (k := 7) (cls := cls) (takes_of rfl rfl rfl rfl) hr rfl rfl sc__law_far.nd
    exact DSs.two (
    (dss_cons (ds_if (dt_w (dw_or (dt_cmp (c_ne q).i (dv_call q (ok__law_ask B) (by decide) (da_cons dv_int (da_cons (dv_var 2) (da_cons (dv_tup (da_cons (dv_var 0) (da_cons (dv_var 0) (da_cons (dv_var 1) (da_cons dv_bl da_nil))))) (da_cons dv_non da_nil))))) (dv_tup (da_cons dv_str da_nil))) (dw_or1 (dt_cmp c_isnot (dv_call q (ok__law_ask B) (by decide) (da_cons dv_int (da_cons (dv_var 0) (da_cons (dv_var 0) (da_cons (dv_var 1) da_nil))))) dv_non)))) (dss_one (ds_ret dv_bl)) dss_nil)
    (dss_one (ds_ret (dv_cmp (c_eq q).i (dv_call q (ok__law_ask B) (by decide) (da_cons dv_int (da_cons (dv_tup (da_cons (dv_neg dv_int) (da_cons dv_int (da_cons dv_int (da_cons (dv_neg dv_int) da_nil))))) (da_cons dv_non (da_cons (dv_tup (da_cons dv_int (da_cons (dv_neg dv_int) da_nil))) da_nil))))) dv_str))))))
def ml_0 : M Town Out := (mSets (mSCons (mFz (mTup (mCons (mRet (.int 0)) (mCons (mRet (.int 5)) (mCons (mRet (.int 0)) (mCons (mRet (.int 0)) (mRet []))))))) (mSCons (mFz (mTup (mCons (mRet (.int 3)) (mCons (mUn opNeg (mRet (.int 9))) (mRet []))))) (mSCons (mFz (mTup (mCons (mRet (.int 7)) (mCons (mRet (.int 3)) (mCons (mRet (.str "ann")) (mCons (mRet (.str "bob")) (mCons (mRet (.int 20)) (mRet [])))))))) mSNil))) [2, 3, 4])
def ml_1 : M Town Out := (mSet 5 (mLst (mCons (mRet .none) (mCons (mTup (mCons (mRet (.int 0)) (mCons (mRet (.int 5)) (mCons (mRet (.int 0)) (mCons (mRet (.int 5)) (mRet [])))))) (mCons (mTup (mCons (mRet (.int 0)) (mCons (mRet (.int 5)) (mCons (mRet (.int 0)) (mRet []))))) (mCons (mFrz (mLst (mCons (mRet (.int 0)) (mCons (mRet (.int 5)) (mCons (mRet (.int 0)) (mCons (mRet (.int 0)) (mRet []))))))) (mCons (mTup (mCons (mRet (.int 0)) (mCons (mRet (.int 5)) (mCons (mRet (.int 0)) (mCons (mRet (.int 1001)) (mRet [])))))) (mCons (mTup (mCons (mUn opNeg (mRet (.int 1001))) (mCons (mRet (.int 5)) (mCons (mRet (.int 0)) (mCons (mRet (.int 0)) (mRet [])))))) (mCons (mTup (mCons (mRet (.bool true)) (mCons (mRet (.int 5)) (mCons (mRet (.int 0)) (mCons (mRet (.int 0)) (mRet [])))))) (mCons (mRet (.str "hull")) (mRet [])))))))))))
def ml_2 : M Town Out := (mSet 6 (mLst (mCons (mRet .none) (mCons (mTup (mCons (mRet (.int 0)) (mCons (mRet (.int 0)) (mRet [])))) (mCons (mTup (mCons (mRet (.int 10)) (mCons (mRet (.int 1)) (mRet [])))) (mCons (mTup (mCons (mRet (.int 1)) (mRet []))) (mCons (mFrz (mLst (mCons (mRet (.int 1)) (mCons (mRet (.int 1)) (mRet []))))) (mCons (mTup (mCons (mRet (.int 1)) (mCons (mRet (.bool true)) (mRet [])))) (mCons (mTup (mCons (mRet (.int 1)) (mCons (mUn opNeg (mRet (.int 10))) (mRet [])))) (mRet []))))))))))
def ml_3 : M Town Out := (mSets (mSCons (mFz (mCallT g__law_pick (mSCons (mPt 0) (mSCons (mPt 1) (mSCons (mFz (mVar 5)) mSNil))))) (mSCons (mFz (mCallT g__law_pick (mSCons (mPt 0) (mSCons (mPt 1) (mSCons (mFz (mVar 6)) mSNil))))) mSNil)) [7, 8])
def ml_4 : M Town Out := (mFor (mIter (mVar 5)) (pName 9) (mSeq (mIf ((mB (mOp opNe (mFrz (mLc [11] (mRange1 (mRet (.int 3))) (pName 11) (mRet true) (mCall g__law_ask (mCons (mVar 11) (mCons (mVar 9) (mCons (mVar 2) (mCons (mVar 8) (mRet [])))))))) (mOp opMul (mFrz (mLst (mCons (mTup (mCons (mRet (.str "refused")) (mCons (mRet (.int 12)) (mRet [])))) (mRet [])))) (mRet (.int 3)))))) (mReturn (mRet (.bool false))) (mRet .nx))
  (mIf ((mB (mOp opNe (mFrz (mLc [11] (mIter (mTup (mCons (mRet (.int 1)) (mCons (mRet (.int 2)) (mRet []))))) (pName 11) (mRet true) (mCall g__law_ask (mCons (mVar 11) (mCons (mVar 2) (mCons (mVar 9) (mCons (mVar 8) (mRet [])))))))) (mOp opMul (mFrz (mLst (mCons (mTup (mCons (mRet (.str "refused")) (mCons (mRet (.int 12)) (mRet [])))) (mRet [])))) (mRet (.int 2)))))) (mReturn (mRet (.bool false))) (mRet .nx))))
def ml_5 : M Town Out := (mFor (mIter (mVar 6)) (pName 9) (mIf ((mB (mOp opNe (mFrz (mLc [11] (mIter (mTup (mCons (mRet (.int 0)) (mCons (mRet (.int 2)) (mRet []))))) (pName 11) (mRet true) (mCall g__law_ask (mCons (mVar 11) (mCons (mVar 2) (mCons (mVar 2) (mCons (mVar 9) (mRet [])))))))) (mOp opMul (mFrz (mLst (mCons (mTup (mCons (mRet (.str "refused")) (mCons (mRet (.int 13)) (mRet [])))) (mRet [])))) (mRet (.int 2)))))) (mReturn (mRet (.bool false))) (mRet .nx)))
def ml_6 : M Town Out := (mSet 10 (mLst (mCons (mRet .none) (mCons (mTup (mCons (mVar 7) (mCons (mVar 2) (mCons (mVar 3) (mCons (mRet (.bool true)) (mRet [])))))) (mCons (mTup (mCons (mVar 2) (mCons (mVar 7) (mCons (mVar 3) (mCons (mRet (.bool true)) (mRet [])))))) (mCons (mTup (mCons (mVar 2) (mCons (mVar 2) (mCons (mVar 8) (mCons (mRet (.bool true)) (mRet [])))))) (mRet [])))))))
def ml_7 : M Town Out := (mExpr (mExtend 10 (mFrz (mLst (mCons (mTup (mCons (mVar 2) (mCons (mVar 2) (mCons (mVar 3) (mCons (mRet (.int 1)) (mRet [])))))) (mRet []))))))
def ml_8 : M Town Out := (mExpr (mExtend 10 (mFrz (mLst (mCons (mTup (mCons (mVar 2) (mCons (mVar 2) (mCons (mVar 3) (mRet []))))) (mCons (mFrz (mLst (mCons (mVar 2) (mCons (mVar 2) (mCons (mVar 3) (mCons (mRet (.bool true)) (mRet []))))))) (mRet [])))))))
def ml_9 : M Town Out := (mFor (mIter (mVar 10)) (pName 9) (mIf ((mB (mOp opNe (mCall g__law_ask (mCons (mRet (.int 3)) (mCons (mVar 4) (mCons (mVar 9) (mCons (mRet .none) (mRet [])))))) (mTup (mCons (mRet (.str "refused")) (mCons (mRet (.int 15)) (mRet []))))))) (mReturn (mRet (.bool false))) (mRet .nx)))
def ml_10 : M Town Out := (mReturn (mAndV (mCall g__law_protests (mCons (mVar 4) (mCons (mOpP opIx 10 (mRet (.int 0))) (mRet [])))) (mCall g__law_far (mCons (mVar 2) (mCons (mVar 3) (mCons (mVar 4) (mRet [])))))))
def m_law : M Town Out :=
  (mSeq ml_0 (mSeq ml_1 (mSeq ml_2 (mSeq ml_3 (mSeq ml_4 (mSeq ml_5 (mSeq ml_6 (mSeq ml_7 (mSeq ml_8 (mSeq ml_9 ml_10))))))))))
theorem ok_law {f : Addr} {fd : FuncData} (B : BB K mg cls) (F : Fun K "law" "law" s_law f fd) (hm : ∀ ns : List Int, ns.length ≤ 63 → ∃ s', m_law ⟨.pt 0 :: .pt 1 :: List.replicate 10 .un, ⟨ns, 0, 0⟩⟩ = .ok (.ret (.bool true)) s') : FnOk P w K mg base (L2.CX P w) 9 f fd ["_law_script"] (spLaw K) := by
  refine okLaw (cls := cls) (k := 8) (m := m_law) F sc_law rfl (by decide) (fun cdv A outer s H E hr => ?_) hm
  have pw : PassesOwn (model P w) (A.deeper (PyProof.Rows.envOfC "law" (defScope s_law) s.heap.objs.size f cdv)) (PyProof.Rows.envOfC "law" (defScope s_law) s.heap.objs.size f cdv) (cxOf (L2.CX P w) P w K mg base N_law "law" (defScope s_law) f cdv A outer s H E).xe := passes_of (X := cxOf (L2.CX P w) P w K mg base N_law "law" (defScope s_law) f cdv A outer s H E) rfl
  have h1 : PS (cxOf (L2.CX P w) P w K mg base N_law "law" (defScope s_law) f cdv A outer s H E) ((defBody s_law).headD (.Pass ⟨0, 0, 0, 0⟩)) (tAsg (tLst (tCons (tC (.int 0)) (tCons (tC (.int 0)) tNil))) (gName 1)) := ps_set (i := 1) sc_law.nd rfl (by first | exact Or.inl rfl | exact Or.inr rfl) (pe_lst (pa_cons pe_int (pa_cons pe_int pa_nil)))
  have h2 := DSs.twoT (X := cxOf (L2.CX P w) P w K mg base N_law "law" (defScope s_law) f cdv A outer s H E) (W := WofE E) (st := (defBody s_law).tail) (m := m_law) (cts_any K cls) (fun C hC =>
    have q := Cur.town (X := cxOf (L2.CX P w) P w K mg base N_law "law" (defScope s_law) f cdv A outer s H E) (W := WofE E) (k := 8) hC (takes_of rfl rfl rfl rfl) hr rfl rfl sc_law.nd
    (dss_cons (ds_tupset q 3 rfl (pgn_cons 2 q.nd (pgn_cons 3 q.nd (pgn_cons 4 q.nd pgn_nil))) (das_cons (de_fz (dv_tup (da_cons dv_int (da_cons dv_int (da_cons dv_int (da_cons dv_int da_nil)))))) (das_cons (de_fz (dv_tup (da_cons dv_int (da_cons (dv_neg dv_int) da_nil)))) (das_cons (de_fz (dv_tup (da_cons dv_int (da_cons dv_int (da_cons dv_str (da_cons dv_str (da_cons dv_int da_nil))))))) das_nil))))
    (dss_cons (ds_set 5 q (de_lst (da_cons dv_non (da_cons (dv_tup (da_cons dv_int (da_cons dv_int (da_cons dv_int (da_cons dv_int da_nil))))) (da_cons (dv_tup (da_cons dv_int (da_cons dv_int (da_cons dv_int da_nil)))) (da_cons (dv_frz (de_lst (da_cons dv_int (da_cons dv_int (da_cons dv_int (da_cons dv_int da_nil)))))) (da_cons (dv_tup (da_cons dv_int (da_cons dv_int (da_cons dv_int (da_cons dv_int da_nil))))) (da_cons (dv_tup (da_cons (dv_neg dv_int) (da_cons dv_int (da_cons dv_int (da_cons dv_int da_nil))))) (da_cons (dv_tup (da_cons dv_bl (da_cons dv_int (da_cons dv_int (da_cons dv_int da_nil))))) (da_cons dv_str da_nil))))))))))
    (dss_cons (ds_set 6 q (de_lst (da_cons dv_non (da_cons (dv_tup (da_cons dv_int (da_cons dv_int da_nil))) (da_cons (dv_tup (da_cons dv_int (da_cons dv_int da_nil))) (da_cons (dv_tup (da_cons dv_int da_nil)) (da_cons (dv_frz (de_lst (da_cons dv_int (da_cons dv_int da_nil)))) (da_cons (dv_tup (da_cons dv_int (da_cons dv_bl da_nil))) (da_cons (dv_tup (da_cons dv_int (da_cons (dv_neg dv_int) da_nil))) da_nil)))))))))
    (dss_cons (ds_tupset q 2 rfl (pgn_cons 7 q.nd (pgn_cons 8 q.nd pgn_nil)) (das_cons (de_fz (dv_callT q hC (ok__law_pick B) (by decide) (das_cons (de_pt 0) (das_cons (de_pt 1) (das_cons (de_fz (dv_var 5)) das_nil))))) (das_cons (de_fz (dv_callT q hC (ok__law_pick B) (by decide) (das_cons (de_pt 0) (das_cons (de_pt 1) (das_cons (de_fz (dv_var 6)) das_nil))))) das_nil)))
    (dss_cons (ds_for q pw (di_seq q (dv_var 5)) (dg_name 9 q) (dss_cons (ds_if (dt_cmp (c_ne q).i (dv_frz (de_lc q [11] rfl (by decide) (di_range1 B.n_range dv_int) (blkOk_by (own := [("_law_what", 11)]) (N := N_law) (sc := defScope s_law) (by decide +kernel)) (fun _ _ _ _ _ q1 => (dg_name 11 q1)) (fun _ _ _ _ _ q1 => dts_nil) (fun _ _ _ _ _ q1 => (dv_call q1 (ok__law_ask B) (by decide) (da_cons (dv_var 11) (da_cons (dv_var 9) (da_cons (dv_var 2) (da_cons (dv_var 8) da_nil)))))))) (dv_mul (dv_frz (de_lst (da_cons (dv_tup (da_cons dv_str (da_cons dv_int da_nil))) da_nil))) dv_int)) (dss_one (ds_ret dv_bl)) dss_nil)
    (dss_one (ds_if (dt_cmp (c_ne q).i (dv_frz (de_lc q [11] rfl (by decide) (di_seq q (dv_tup (da_cons dv_int (da_cons dv_int da_nil)))) (blkOk_by (own := [("_law_what", 11)]) (N := N_law) (sc := defScope s_law) (by decide +kernel)) (fun _ _ _ _ _ q1 => (dg_name 11 q1)) (fun _ _ _ _ _ q1 => dts_nil) (fun _ _ _ _ _ q1 => (dv_call q1 (ok__law_ask B) (by decide) (da_cons (dv_var 11) (da_cons (dv_var 2) (da_cons (dv_var 9) (da_cons (dv_var 8) da_nil)))))))) (dv_mul (dv_frz (de_lst (da_cons (dv_tup (da_cons dv_str (da_cons dv_int da_nil))) da_nil))) dv_int)) (dss_one (ds_ret dv_bl)) dss_nil))))
    (dss_cons (ds_for q pw (di_seq q (dv_var 6)) (dg_name 9 q) (dss_one (ds_if (dt_cmp (c_ne q).i (dv_frz (de_lc q [11] rfl (by decide) (di_seq q (dv_tup (da_cons dv_int (da_cons dv_int da_nil)))) (blkOk_by (own := [("_law_what", 11)]) (N := N_law) (sc := defScope s_law) (by decide +kernel)) (fun _ _ _ _ _ q1 => (dg_name 11 q1)) (fun _ _ _ _ _ q1 => dts_nil) (fun _ _ _ _ _ q1 => (dv_call q1 (ok__law_ask B) (by decide) (da_cons (dv_var 11) (da_cons (dv_var 2) (da_cons (dv_var 2) (da_cons (dv_var 9) da_nil)))))))) (dv_mul (dv_frz (de_lst (da_cons (dv_tup (da_cons dv_str (da_cons dv_int da_nil))) da_nil))) dv_int)) (dss_one (ds_ret dv_bl)) dss_nil)))
    (dss_cons (ds_set 10 q (de_lst (da_cons dv_non (da_cons (dv_tup (da_cons (dv_var 7) (da_cons (dv_var 2) (da_cons (dv_var 3) (da_cons dv_bl da_nil))))) (da_cons (dv_tup (da_cons (dv_var 2) (da_cons (dv_var 7) (da_cons (dv_var 3) (da_cons dv_bl da_nil))))) (da_cons (dv_tup (da_cons (dv_var 2) (da_cons (dv_var 2) (da_cons (dv_var 8) (da_cons dv_bl da_nil))))) da_nil))))))
    (dss_cons (ds_expr (dv_extend q 10 (pv 10) (dv_frz (de_lst (da_cons (dv_tup (da_cons (dv_var 2) (da_cons (dv_var 2) (da_cons (dv_var 3) (da_cons dv_int da_nil))))) da_nil)))))
    (dss_cons (ds_expr (dv_extend q 10 (pv 10) (dv_frz (de_lst (da_cons (dv_tup (da_cons (dv_var 2) (da_cons (dv_var 2) (da_cons (dv_var 3) da_nil)))) (da_cons (dv_frz (de_lst (da_cons (dv_var 2) (da_cons (dv_var 2) (da_cons (dv_var 3) (da_cons dv_bl da_nil)))))) da_nil))))))
    (dss_cons (ds_for q pw (di_seq q (dv_var 10)) (dg_name 9 q) (dss_one (ds_if (dt_cmp (c_ne q).i (dv_call q (ok__law_ask B) (by decide) (da_cons dv_int (da_cons (dv_var 4) (da_cons (dv_var 9) (da_cons dv_non da_nil))))) (dv_tup (da_cons dv_str (da_cons dv_int da_nil)))) (dss_one (ds_ret dv_bl)) dss_nil)))
    (dss_one (ds_ret (dv_and (dv_call q (ok__law_protests B) (by decide) (da_cons (dv_var 4) (da_cons (dv_ixP q 10 (pv 10) dv_int) da_nil))) (dv_one (dv_call q (ok__law_far B) (by decide) (da_cons (dv_var 2) (da_cons (dv_var 3) (da_cons (dv_var 4) da_nil)))))))))))))))))))
  obtain ⟨t, h3, h4⟩ := h2
  exact ⟨t, pss_cons h1 h3, h4⟩
end
end Pm

set_option Elab.async false
set_option linter.all false
set_option maxRecDepth 100000
set_option maxHeartbeats 4000000
namespace Pm
open PySem L2 RZ
theorem atI_ok {α : Type} {xs : List α} {k : Int} (h0 : 0 ≤ k) (h1 : k < xs.length) : ∃ x, atI xs k = some x ∧ x ∈ xs := by
  unfold atI ixN
  rw [if_pos h0, if_pos h1]
  refine ⟨xs[k.toNat]'(by omega), ?_, List.getElem_mem _⟩
  simp
theorem drawL {t : Town} {n : Int} (h0 : 0 < n) (h1 : n < 1000000) : ∃ d t', g__law_draw [.pt 0, .pt 1, .fz (.int n)] t = .ok (.int d) t' ∧ 0 ≤ d ∧ d < n := drawT h0 h1
theorem p_pick {t : Town} {xs : List D} (h0 : 0 < xs.length) (h1 : xs.length < 1000) : ∃ d t', g__law_pick [.pt 0, .pt 1, .fz (.list xs)] t = .ok d t' ∧ d ∈ xs := by
  obtain ⟨k, t', e, l, u⟩ := drawL (t := t) (n := xs.length) (by omega) (by omega)
  obtain ⟨d, e2, m⟩ := atI_ok (xs := xs) l u
  refine ⟨d, t', ?_, m⟩
  unfold g__law_pick m__law_pick
  simp only [fnP, fnT, env0, outOf, outOfT, mSeq, mSetG, mReturn, mExpr, mCall, mCallT, mPt, mIf, mB, mOp, mUn, mCons, mSCons, mSNil, mTup, mLst, mFrz, mFz, frz, mBlk, mBind_ap, mRet_ap, mVar, mLift_ap, mNot, mOfB, mAnd, mOr, mAndV, mOrV, mChain, mSet, mSets, mIsi, isTy, mTruth, truthD, mSl, mSome, asI, pTup, pCons, pName, pNil, opMul, opSub, opAdd, opMod, opDiv, opIx, opIx0, opGt, opLt, opLe, opGe, opIs, opIsNot, opLen, opNeg, asB, argOk, mIter, asSeq, mLc, mLcL, mTurn, addO, wipeE, restE, okW, List.length_cons, List.length_nil, List.getElem?_cons_zero, List.getElem?_cons_succ, List.map_cons, List.map_nil, List.replicate, List.cons_append, List.nil_append, List.set_cons_succ, List.set_cons_zero, List.all_cons, List.all_nil, List.zip_cons_cons, List.zip_nil_right, List.foldl_cons, List.foldl_nil, if_true, if_false, opEq_ii, opNe_ii, opEq_bb, opNe_bb, Int.cast_ofNat_Int, okS, opAll, opAny, dBools, Option.map_some, Option.map_none, List.getD_cons_zero, List.getD_cons_succ, Option.isSome_some, Option.isSome_none, id_eq, eq_self, atI_0, atI_1, atI_2, atI_3, atI_4, atI_5, atI_6, atI_7, atI_8, atI_9, Nat.reduceAdd, Nat.reduceLeDiff, Nat.reduceLT, Nat.reduceSub, Nat.reduceEqDiff, Bool.and_true, Bool.true_and, Bool.not_true, Bool.not_false, Bool.false_and, Bool.and_false, true_and, and_true, and_self, reduceIte, Bool.false_eq_true, decide_true, decide_false, e, e2]
def isTrueR {T : Type} : Res T Out → Bool
  | .ok (.ret (.bool true)) _ => true
  | _ => false
theorem trueR {T : Type} {r : Res T Out} (h : isTrueR r = true) : ∃ s', r = .ok (.ret (.bool true)) s' := by
  cases r with
  | stuck => cases h
  | exc c s => cases h
  | ok o s =>
    cases o with
    | ret d =>
      cases d with
      | bool b =>
        cases b
        · cases h
        · exact ⟨s, rfl⟩
      | _ => cases h
    | _ => cases h
abbrev hull0 : D := .tuple [.int 0, .int 5, .int 0, .int 0]
abbrev wind0 : D := .tuple [.int 3, .int (-9)]
abbrev good0 : D := .tuple [.int 7, .int 3, .str "ann", .str "bob", .int 20]
abbrev bad0 : List D := [.none, .tuple [.int 0, .int 5, .int 0, .int 5], .tuple [.int 0, .int 5, .int 0], .list [.int 0, .int 5, .int 0, .int 0], .tuple [.int 0, .int 5, .int 0, .int 1001], .tuple [.int (-1001), .int 5, .int 0, .int 0], .tuple [.bool true, .int 5, .int 0, .int 0], .str "hull"]
abbrev odd0 : List D := [.none, .tuple [.int 0, .int 0], .tuple [.int 10, .int 1], .tuple [.int 1], .list [.int 1, .int 1], .tuple [.int 1, .bool true], .tuple [.int 1, .int (-10)]]
def restM : M Town Out := mSeq ml_4 (mSeq ml_5 (mSeq ml_6 (mSeq ml_7 (mSeq ml_8 (mSeq ml_9 ml_10)))))
theorem rest_all (t : Town) : (bad0.all fun a => odd0.all fun b => isTrueR (restM ⟨[.pt 0, .pt 1, .fz hull0, .fz wind0, .fz good0, .fz (.list bad0), .fz (.list odd0), .fz a, .fz b, .un, .un, .un], t⟩)) = true := by kernel_rfl
theorem start_eq (R : M Town Out) (t : Town) : mSeq ml_0 (mSeq ml_1 (mSeq ml_2 R)) ⟨[.pt 0, .pt 1, .un, .un, .un, .un, .un, .un, .un, .un, .un, .un], t⟩ = R ⟨[.pt 0, .pt 1, .fz hull0, .fz wind0, .fz good0, .ol bad0, .ol odd0, .un, .un, .un, .un, .un], t⟩ := by kernel_rfl
theorem law_true (ns : List Int) : ∃ s', m_law ⟨.pt 0 :: .pt 1 :: List.replicate 10 .un, ⟨ns, 0, 0⟩⟩ = .ok (.ret (.bool true)) s' := by
  obtain ⟨a, t1, e1, ha⟩ := p_pick (t := ⟨ns, 0, 0⟩) (xs := bad0) (by decide) (by decide)
  obtain ⟨b, t2, e2, hb⟩ := p_pick (t := t1) (xs := odd0) (by decide) (by decide)
  have h := rest_all t2
  rw [List.all_eq_true] at h
  have h2 := h a ha
  rw [List.all_eq_true] at h2
  obtain ⟨s', hs⟩ := trueR (h2 b hb)
  refine ⟨s', (start_eq (mSeq ml_3 restM) ⟨ns, 0, 0⟩).trans ?_⟩
  refine (seq_nx ?_).trans hs
  unfold ml_3
  simp only [fnP, fnT, env0, outOf, outOfT, mSeq, mSetG, mReturn, mExpr, mCall, mCallT, mPt, mIf, mB, mOp, mUn, mCons, mSCons, mSNil, mTup, mLst, mFrz, mFz, frz, mBlk, mBind_ap, mRet_ap, mVar, mLift_ap, mNot, mOfB, mAnd, mOr, mAndV, mOrV, mChain, mSet, mSets, mIsi, isTy, mTruth, truthD, mSl, mSome, asI, pTup, pCons, pName, pNil, opMul, opSub, opAdd, opMod, opDiv, opIx, opIx0, opGt, opLt, opLe, opGe, opIs, opIsNot, opLen, opNeg, asB, argOk, mIter, asSeq, mLc, mLcL, mTurn, addO, wipeE, restE, okW, List.length_cons, List.length_nil, List.getElem?_cons_zero, List.getElem?_cons_succ, List.map_cons, List.map_nil, List.replicate, List.cons_append, List.nil_append, List.set_cons_succ, List.set_cons_zero, List.all_cons, List.all_nil, List.zip_cons_cons, List.zip_nil_right, List.foldl_cons, List.foldl_nil, if_true, if_false, opEq_ii, opNe_ii, opEq_bb, opNe_bb, Int.cast_ofNat_Int, okS, opAll, opAny, dBools, Option.map_some, Option.map_none, List.getD_cons_zero, List.getD_cons_succ, Option.isSome_some, Option.isSome_none, id_eq, eq_self, atI_0, atI_1, atI_2, atI_3, atI_4, atI_5, atI_6, atI_7, atI_8, atI_9, Nat.reduceAdd, Nat.reduceLeDiff, Nat.reduceLT, Nat.reduceSub, Nat.reduceEqDiff, Bool.and_true, Bool.true_and, Bool.not_true, Bool.not_false, Bool.false_and, Bool.and_false, true_and, and_true, and_self, reduceIte, Bool.false_eq_true, decide_true, decide_false, e1, e2]
end Pm

set_option Elab.async false
set_option linter.all false
set_option maxRecDepth 100000
set_option maxHeartbeats 4000000
namespace Pm
open PySem L2 RZ
theorem all_mk {l : PySem.W.OpenLaw} {w : World} {K : PySem.W.Frag} {h : Heap} {mg : Str → Option Value} {fa : Addr} (X : K.In h) (G : h.Ns mainGlobals mg) (hfa : mg "law" = some (.ref fa))
    {c0 : Addr}
    {c1 : Addr}
    {c2 : Addr}
    {c3 : Addr}
    {c4 : Addr}
    {c5 : Addr}
    {c6 : Addr}
    {c7 : Addr}
    {c8 : Addr}
    {c9 : Addr}
    {c10 : Addr}
    {c11 : Addr}
    {c12 : Addr}
    {c13 : Addr}
    {c14 : Addr}
    {c15 : Addr}
    {c16 : Addr}
    {c17 : Addr}
    {c18 : Addr}
    {c19 : Addr}
    {c20 : Addr}
    {c21 : Addr}
    {g0 : Tok}
    {g1 : Tok}
    {f0 : Addr} {od0 an0 : Option Addr} {sl0 : Array (Option Value)} {oc0 kV0 dc0 pm0 cd0 ct0 : Value}
    {f1 : Addr} {od1 an1 : Option Addr} {sl1 : Array (Option Value)} {oc1 kV1 dc1 pm1 cd1 ct1 : Value}
    {f2 : Addr} {od2 an2 : Option Addr} {sl2 : Array (Option Value)} {oc2 kV2 dc2 pm2 cd2 ct2 : Value}
    {f3 : Addr} {od3 an3 : Option Addr} {sl3 : Array (Option Value)} {oc3 kV3 dc3 pm3 cd3 ct3 : Value}
    {f4 : Addr} {od4 an4 : Option Addr} {sl4 : Array (Option Value)} {oc4 kV4 dc4 pm4 cd4 ct4 : Value}
    {f5 : Addr} {od5 an5 : Option Addr} {sl5 : Array (Option Value)} {oc5 kV5 dc5 pm5 cd5 ct5 : Value}
    {f6 : Addr} {od6 an6 : Option Addr} {sl6 : Array (Option Value)} {oc6 kV6 dc6 pm6 cd6 ct6 : Value}
    {f7 : Addr} {od7 an7 : Option Addr} {sl7 : Array (Option Value)} {oc7 kV7 dc7 pm7 cd7 ct7 : Value}
    {f8 : Addr} {od8 an8 : Option Addr} {sl8 : Array (Option Value)} {oc8 kV8 dc8 pm8 cd8 ct8 : Value}
    {f9 : Addr} {od9 an9 : Option Addr} {sl9 : Array (Option Value)} {oc9 kV9 dc9 pm9 cd9 ct9 : Value}
    {f10 : Addr} {od10 an10 : Option Addr} {sl10 : Array (Option Value)} {oc10 kV10 dc10 pm10 cd10 ct10 : Value}
    {f11 : Addr} {od11 an11 : Option Addr} {sl11 : Array (Option Value)} {oc11 kV11 dc11 pm11 cd11 ct11 : Value}
    {f12 : Addr} {od12 an12 : Option Addr} {sl12 : Array (Option Value)} {oc12 kV12 dc12 pm12 cd12 ct12 : Value}
    {f13 : Addr} {od13 an13 : Option Addr} {sl13 : Array (Option Value)} {oc13 kV13 dc13 pm13 cd13 ct13 : Value}
    {f14 : Addr} {od14 an14 : Option Addr} {sl14 : Array (Option Value)} {oc14 kV14 dc14 pm14 cd14 ct14 : Value}
    {f15 : Addr} {od15 an15 : Option Addr} {sl15 : Array (Option Value)} {oc15 kV15 dc15 pm15 cd15 ct15 : Value}
    {f16 : Addr} {od16 an16 : Option Addr} {sl16 : Array (Option Value)} {oc16 kV16 dc16 pm16 cd16 ct16 : Value}
    {f17 : Addr} {od17 an17 : Option Addr} {sl17 : Array (Option Value)} {oc17 kV17 dc17 pm17 cd17 ct17 : Value}
    {f18 : Addr} {od18 an18 : Option Addr} {sl18 : Array (Option Value)} {oc18 kV18 dc18 pm18 cd18 ct18 : Value}
    {f19 : Addr} {od19 an19 : Option Addr} {sl19 : Array (Option Value)} {oc19 kV19 dc19 pm19 cd19 ct19 : Value}
    {f20 : Addr} {od20 an20 : Option Addr} {sl20 : Array (Option Value)} {oc20 kV20 dc20 pm20 cd20 ct20 : Value}
    {f21 : Addr} {od21 an21 : Option Addr} {sl21 : Array (Option Value)} {oc21 kV21 dc21 pm21 cd21 ct21 : Value}
    {f22 : Addr} {od22 an22 : Option Addr} {sl22 : Array (Option Value)} {oc22 kV22 dc22 pm22 cd22 ct22 : Value}
    {f23 : Addr} {od23 an23 : Option Addr} {sl23 : Array (Option Value)} {oc23 kV23 dc23 pm23 cd23 ct23 : Value}
    {f24 : Addr} {od24 an24 : Option Addr} {sl24 : Array (Option Value)} {oc24 kV24 dc24 pm24 cd24 ct24 : Value}
    (ea0 : PySem.W.nsIn K mainGlobals "RaceError" = some (some (.ref c0)))
    (ex0 : PySem.W.excIn K c0 [.type "ValueError", .type "Exception", .type "BaseException", .type "object"] "ValueError.__new__" = true)
    (ek0 : PySem.W.keepIn K (.ref c0) = true)
    (es0 : PySem.W.subIn K (.ref c0) (.type "BaseException") = some true)
    (et0 : PySem.W.typeIn K (.ref c0) = some (.type "type"))
    (ea1 : PySem.W.nsIn K mainGlobals "NoShare" = some (some (.ref c1)))
    (ex1 : PySem.W.excIn K c1 [.type "ValueError", .type "Exception", .type "BaseException", .type "object"] "ValueError.__new__" = true)
    (ek1 : PySem.W.keepIn K (.ref c1) = true)
    (es1 : PySem.W.subIn K (.ref c1) (.type "BaseException") = some true)
    (et1 : PySem.W.typeIn K (.ref c1) = some (.type "type"))
    (ea2 : PySem.W.nsIn K mainGlobals "NoTide" = some (some (.ref c2)))
    (ex2 : PySem.W.excIn K c2 [.type "ValueError", .type "Exception", .type "BaseException", .type "object"] "ValueError.__new__" = true)
    (ek2 : PySem.W.keepIn K (.ref c2) = true)
    (es2 : PySem.W.subIn K (.ref c2) (.type "BaseException") = some true)
    (et2 : PySem.W.typeIn K (.ref c2) = some (.type "type"))
    (ea3 : PySem.W.nsIn K mainGlobals "NoNumber" = some (some (.ref c3)))
    (ex3 : PySem.W.excIn K c3 [.type "ValueError", .type "Exception", .type "BaseException", .type "object"] "ValueError.__new__" = true)
    (ek3 : PySem.W.keepIn K (.ref c3) = true)
    (es3 : PySem.W.subIn K (.ref c3) (.type "BaseException") = some true)
    (et3 : PySem.W.typeIn K (.ref c3) = some (.type "type"))
    (ea4 : PySem.W.nsIn K mainGlobals "NoTrack" = some (some (.ref c4)))
    (ex4 : PySem.W.excIn K c4 [.type "ValueError", .type "Exception", .type "BaseException", .type "object"] "ValueError.__new__" = true)
    (ek4 : PySem.W.keepIn K (.ref c4) = true)
    (es4 : PySem.W.subIn K (.ref c4) (.type "BaseException") = some true)
    (et4 : PySem.W.typeIn K (.ref c4) = some (.type "type"))
    (ea5 : PySem.W.nsIn K mainGlobals "NoGate" = some (some (.ref c5)))
    (ex5 : PySem.W.excIn K c5 [.type "ValueError", .type "Exception", .type "BaseException", .type "object"] "ValueError.__new__" = true)
    (ek5 : PySem.W.keepIn K (.ref c5) = true)
    (es5 : PySem.W.subIn K (.ref c5) (.type "BaseException") = some true)
    (et5 : PySem.W.typeIn K (.ref c5) = some (.type "type"))
    (ea6 : PySem.W.nsIn K mainGlobals "NoCourse" = some (some (.ref c6)))
    (ex6 : PySem.W.excIn K c6 [.type "ValueError", .type "Exception", .type "BaseException", .type "object"] "ValueError.__new__" = true)
    (ek6 : PySem.W.keepIn K (.ref c6) = true)
    (es6 : PySem.W.subIn K (.ref c6) (.type "BaseException") = some true)
    (et6 : PySem.W.typeIn K (.ref c6) = some (.type "type"))
    (ea7 : PySem.W.nsIn K mainGlobals "NoRule" = some (some (.ref c7)))
    (ex7 : PySem.W.excIn K c7 [.type "ValueError", .type "Exception", .type "BaseException", .type "object"] "ValueError.__new__" = true)
    (ek7 : PySem.W.keepIn K (.ref c7) = true)
    (es7 : PySem.W.subIn K (.ref c7) (.type "BaseException") = some true)
    (et7 : PySem.W.typeIn K (.ref c7) = some (.type "type"))
    (ea8 : PySem.W.nsIn K mainGlobals "NoEntries" = some (some (.ref c8)))
    (ex8 : PySem.W.excIn K c8 [.type "ValueError", .type "Exception", .type "BaseException", .type "object"] "ValueError.__new__" = true)
    (ek8 : PySem.W.keepIn K (.ref c8) = true)
    (es8 : PySem.W.subIn K (.ref c8) (.type "BaseException") = some true)
    (et8 : PySem.W.typeIn K (.ref c8) = some (.type "type"))
    (ea9 : PySem.W.nsIn K mainGlobals "NoRace" = some (some (.ref c9)))
    (ex9 : PySem.W.excIn K c9 [.type "ValueError", .type "Exception", .type "BaseException", .type "object"] "ValueError.__new__" = true)
    (ek9 : PySem.W.keepIn K (.ref c9) = true)
    (es9 : PySem.W.subIn K (.ref c9) (.type "BaseException") = some true)
    (et9 : PySem.W.typeIn K (.ref c9) = some (.type "type"))
    (ea10 : PySem.W.nsIn K mainGlobals "NoSeries" = some (some (.ref c10)))
    (ex10 : PySem.W.excIn K c10 [.type "ValueError", .type "Exception", .type "BaseException", .type "object"] "ValueError.__new__" = true)
    (ek10 : PySem.W.keepIn K (.ref c10) = true)
    (es10 : PySem.W.subIn K (.ref c10) (.type "BaseException") = some true)
    (et10 : PySem.W.typeIn K (.ref c10) = some (.type "type"))
    (ea11 : PySem.W.nsIn K mainGlobals "NoDrops" = some (some (.ref c11)))
    (ex11 : PySem.W.excIn K c11 [.type "ValueError", .type "Exception", .type "BaseException", .type "object"] "ValueError.__new__" = true)
    (ek11 : PySem.W.keepIn K (.ref c11) = true)
    (es11 : PySem.W.subIn K (.ref c11) (.type "BaseException") = some true)
    (et11 : PySem.W.typeIn K (.ref c11) = some (.type "type"))
    (ea12 : PySem.W.nsIn K mainGlobals "NoBoat" = some (some (.ref c12)))
    (ex12 : PySem.W.excIn K c12 [.type "ValueError", .type "Exception", .type "BaseException", .type "object"] "ValueError.__new__" = true)
    (ek12 : PySem.W.keepIn K (.ref c12) = true)
    (es12 : PySem.W.subIn K (.ref c12) (.type "BaseException") = some true)
    (et12 : PySem.W.typeIn K (.ref c12) = some (.type "type"))
    (ea13 : PySem.W.nsIn K mainGlobals "NoHull" = some (some (.ref c13)))
    (ex13 : PySem.W.excIn K c13 [.type "ValueError", .type "Exception", .type "BaseException", .type "object"] "ValueError.__new__" = true)
    (ek13 : PySem.W.keepIn K (.ref c13) = true)
    (es13 : PySem.W.subIn K (.ref c13) (.type "BaseException") = some true)
    (et13 : PySem.W.typeIn K (.ref c13) = some (.type "type"))
    (ea14 : PySem.W.nsIn K mainGlobals "NoWind" = some (some (.ref c14)))
    (ex14 : PySem.W.excIn K c14 [.type "ValueError", .type "Exception", .type "BaseException", .type "object"] "ValueError.__new__" = true)
    (ek14 : PySem.W.keepIn K (.ref c14) = true)
    (es14 : PySem.W.subIn K (.ref c14) (.type "BaseException") = some true)
    (et14 : PySem.W.typeIn K (.ref c14) = some (.type "type"))
    (ea15 : PySem.W.nsIn K mainGlobals "NoProtest" = some (some (.ref c15)))
    (ex15 : PySem.W.excIn K c15 [.type "ValueError", .type "Exception", .type "BaseException", .type "object"] "ValueError.__new__" = true)
    (ek15 : PySem.W.keepIn K (.ref c15) = true)
    (es15 : PySem.W.subIn K (.ref c15) (.type "BaseException") = some true)
    (et15 : PySem.W.typeIn K (.ref c15) = some (.type "type"))
    (ea16 : PySem.W.nsIn K mainGlobals "NoFacts" = some (some (.ref c16)))
    (ex16 : PySem.W.excIn K c16 [.type "ValueError", .type "Exception", .type "BaseException", .type "object"] "ValueError.__new__" = true)
    (ek16 : PySem.W.keepIn K (.ref c16) = true)
    (es16 : PySem.W.subIn K (.ref c16) (.type "BaseException") = some true)
    (et16 : PySem.W.typeIn K (.ref c16) = some (.type "type"))
    (ea17 : PySem.W.nsIn K mainGlobals "NoOutcome" = some (some (.ref c17)))
    (ex17 : PySem.W.excIn K c17 [.type "ValueError", .type "Exception", .type "BaseException", .type "object"] "ValueError.__new__" = true)
    (ek17 : PySem.W.keepIn K (.ref c17) = true)
    (es17 : PySem.W.subIn K (.ref c17) (.type "BaseException") = some true)
    (et17 : PySem.W.typeIn K (.ref c17) = some (.type "type"))
    (ea18 : PySem.W.nsIn K mainGlobals "Taken" = some (some (.ref c18)))
    (ex18 : PySem.W.excIn K c18 [.type "ValueError", .type "Exception", .type "BaseException", .type "object"] "ValueError.__new__" = true)
    (ek18 : PySem.W.keepIn K (.ref c18) = true)
    (es18 : PySem.W.subIn K (.ref c18) (.type "BaseException") = some true)
    (et18 : PySem.W.typeIn K (.ref c18) = some (.type "type"))
    (ea19 : PySem.W.nsIn K mainGlobals "NoThing" = some (some (.ref c19)))
    (ex19 : PySem.W.excIn K c19 [.type "ValueError", .type "Exception", .type "BaseException", .type "object"] "ValueError.__new__" = true)
    (ek19 : PySem.W.keepIn K (.ref c19) = true)
    (es19 : PySem.W.subIn K (.ref c19) (.type "BaseException") = some true)
    (et19 : PySem.W.typeIn K (.ref c19) = some (.type "type"))
    (ea20 : PySem.W.nsIn K mainGlobals "NoDeed" = some (some (.ref c20)))
    (ex20 : PySem.W.excIn K c20 [.type "ValueError", .type "Exception", .type "BaseException", .type "object"] "ValueError.__new__" = true)
    (ek20 : PySem.W.keepIn K (.ref c20) = true)
    (es20 : PySem.W.subIn K (.ref c20) (.type "BaseException") = some true)
    (et20 : PySem.W.typeIn K (.ref c20) = some (.type "type"))
    (ea21 : PySem.W.nsIn K mainGlobals "NoText" = some (some (.ref c21)))
    (ex21 : PySem.W.excIn K c21 [.type "ValueError", .type "Exception", .type "BaseException", .type "object"] "ValueError.__new__" = true)
    (ek21 : PySem.W.keepIn K (.ref c21) = true)
    (es21 : PySem.W.subIn K (.ref c21) (.type "BaseException") = some true)
    (et21 : PySem.W.typeIn K (.ref c21) = some (.type "type"))
    (wd0 : PySem.W.hasDictIn K c0 = true)
    (wd1 : PySem.W.hasDictIn K c1 = true)
    (wd2 : PySem.W.hasDictIn K c2 = true)
    (wd3 : PySem.W.hasDictIn K c3 = true)
    (wd4 : PySem.W.hasDictIn K c4 = true)
    (wd5 : PySem.W.hasDictIn K c5 = true)
    (wd6 : PySem.W.hasDictIn K c6 = true)
    (wd7 : PySem.W.hasDictIn K c7 = true)
    (wd8 : PySem.W.hasDictIn K c8 = true)
    (wd9 : PySem.W.hasDictIn K c9 = true)
    (wd10 : PySem.W.hasDictIn K c10 = true)
    (wd11 : PySem.W.hasDictIn K c11 = true)
    (wd12 : PySem.W.hasDictIn K c12 = true)
    (wd13 : PySem.W.hasDictIn K c13 = true)
    (wd14 : PySem.W.hasDictIn K c14 = true)
    (wd15 : PySem.W.hasDictIn K c15 = true)
    (wd16 : PySem.W.hasDictIn K c16 = true)
    (wd17 : PySem.W.hasDictIn K c17 = true)
    (wd18 : PySem.W.hasDictIn K c18 = true)
    (wd19 : PySem.W.hasDictIn K c19 = true)
    (wd20 : PySem.W.hasDictIn K c20 = true)
    (wd21 : PySem.W.hasDictIn K c21 = true)
    (wn : PySem.W.specialIn K (.builtin "object.__class__") "__get__" = some (some (.builtin "getset_descriptor.__get__")))
    (wt : PySem.W.takesIn K (.builtin "object.__class__") = some true)
    (ws13_0 : PySem.W.subIn K (.ref c13) (.ref c0) = some true)
    (ws13_1 : PySem.W.subIn K (.ref c13) (.ref c1) = some false)
    (ws13_2 : PySem.W.subIn K (.ref c13) (.ref c2) = some false)
    (ws13_3 : PySem.W.subIn K (.ref c13) (.ref c3) = some false)
    (ws13_4 : PySem.W.subIn K (.ref c13) (.ref c4) = some false)
    (ws13_5 : PySem.W.subIn K (.ref c13) (.ref c5) = some false)
    (ws13_6 : PySem.W.subIn K (.ref c13) (.ref c6) = some false)
    (ws13_7 : PySem.W.subIn K (.ref c13) (.ref c7) = some false)
    (ws13_8 : PySem.W.subIn K (.ref c13) (.ref c8) = some false)
    (ws13_9 : PySem.W.subIn K (.ref c13) (.ref c9) = some false)
    (ws13_10 : PySem.W.subIn K (.ref c13) (.ref c10) = some false)
    (ws13_11 : PySem.W.subIn K (.ref c13) (.ref c11) = some false)
    (ws13_12 : PySem.W.subIn K (.ref c13) (.ref c12) = some false)
    (ws13_13 : PySem.W.subIn K (.ref c13) (.ref c13) = some true)
    (ws13_14 : PySem.W.subIn K (.ref c13) (.ref c14) = some false)
    (ws13_15 : PySem.W.subIn K (.ref c13) (.ref c15) = some false)
    (ws13_16 : PySem.W.subIn K (.ref c13) (.ref c16) = some false)
    (ws13_17 : PySem.W.subIn K (.ref c13) (.ref c17) = some false)
    (ws13_18 : PySem.W.subIn K (.ref c13) (.ref c18) = some false)
    (ws13_19 : PySem.W.subIn K (.ref c13) (.ref c19) = some false)
    (ws13_20 : PySem.W.subIn K (.ref c13) (.ref c20) = some false)
    (ws13_21 : PySem.W.subIn K (.ref c13) (.ref c21) = some false)
    (wv13 : PySem.W.subIn K (.ref c13) (.type "ValueError") = some true)
    (wg13 : PySem.W.findIn K (.ref c13) "__getattribute__" = some (some (.builtin "BaseException.__getattribute__")))
    (wh13 : PySem.W.findIn K (.ref c13) "__getattr__" = some none)
    (wa13 : PySem.W.findIn K (.ref c13) "__class__" = some (some (.builtin "object.__class__")))
    (wm13 : PySem.W.mroIn K c13 (.type "object") = some true)
    (ws14_0 : PySem.W.subIn K (.ref c14) (.ref c0) = some true)
    (ws14_1 : PySem.W.subIn K (.ref c14) (.ref c1) = some false)
    (ws14_2 : PySem.W.subIn K (.ref c14) (.ref c2) = some false)
    (ws14_3 : PySem.W.subIn K (.ref c14) (.ref c3) = some false)
    (ws14_4 : PySem.W.subIn K (.ref c14) (.ref c4) = some false)
    (ws14_5 : PySem.W.subIn K (.ref c14) (.ref c5) = some false)
    (ws14_6 : PySem.W.subIn K (.ref c14) (.ref c6) = some false)
    (ws14_7 : PySem.W.subIn K (.ref c14) (.ref c7) = some false)
    (ws14_8 : PySem.W.subIn K (.ref c14) (.ref c8) = some false)
    (ws14_9 : PySem.W.subIn K (.ref c14) (.ref c9) = some false)
    (ws14_10 : PySem.W.subIn K (.ref c14) (.ref c10) = some false)
    (ws14_11 : PySem.W.subIn K (.ref c14) (.ref c11) = some false)
    (ws14_12 : PySem.W.subIn K (.ref c14) (.ref c12) = some false)
    (ws14_13 : PySem.W.subIn K (.ref c14) (.ref c13) = some false)
    (ws14_14 : PySem.W.subIn K (.ref c14) (.ref c14) = some true)
    (ws14_15 : PySem.W.subIn K (.ref c14) (.ref c15) = some false)
    (ws14_16 : PySem.W.subIn K (.ref c14) (.ref c16) = some false)
    (ws14_17 : PySem.W.subIn K (.ref c14) (.ref c17) = some false)
    (ws14_18 : PySem.W.subIn K (.ref c14) (.ref c18) = some false)
    (ws14_19 : PySem.W.subIn K (.ref c14) (.ref c19) = some false)
    (ws14_20 : PySem.W.subIn K (.ref c14) (.ref c20) = some false)
    (ws14_21 : PySem.W.subIn K (.ref c14) (.ref c21) = some false)
    (wv14 : PySem.W.subIn K (.ref c14) (.type "ValueError") = some true)
    (wg14 : PySem.W.findIn K (.ref c14) "__getattribute__" = some (some (.builtin "BaseException.__getattribute__")))
    (wh14 : PySem.W.findIn K (.ref c14) "__getattr__" = some none)
    (wa14 : PySem.W.findIn K (.ref c14) "__class__" = some (some (.builtin "object.__class__")))
    (wm14 : PySem.W.mroIn K c14 (.type "object") = some true)
    (ws15_0 : PySem.W.subIn K (.ref c15) (.ref c0) = some true)
    (ws15_1 : PySem.W.subIn K (.ref c15) (.ref c1) = some false)
    (ws15_2 : PySem.W.subIn K (.ref c15) (.ref c2) = some false)
    (ws15_3 : PySem.W.subIn K (.ref c15) (.ref c3) = some false)
    (ws15_4 : PySem.W.subIn K (.ref c15) (.ref c4) = some false)
    (ws15_5 : PySem.W.subIn K (.ref c15) (.ref c5) = some false)
    (ws15_6 : PySem.W.subIn K (.ref c15) (.ref c6) = some false)
    (ws15_7 : PySem.W.subIn K (.ref c15) (.ref c7) = some false)
    (ws15_8 : PySem.W.subIn K (.ref c15) (.ref c8) = some false)
    (ws15_9 : PySem.W.subIn K (.ref c15) (.ref c9) = some false)
    (ws15_10 : PySem.W.subIn K (.ref c15) (.ref c10) = some false)
    (ws15_11 : PySem.W.subIn K (.ref c15) (.ref c11) = some false)
    (ws15_12 : PySem.W.subIn K (.ref c15) (.ref c12) = some false)
    (ws15_13 : PySem.W.subIn K (.ref c15) (.ref c13) = some false)
    (ws15_14 : PySem.W.subIn K (.ref c15) (.ref c14) = some false)
    (ws15_15 : PySem.W.subIn K (.ref c15) (.ref c15) = some true)
    (ws15_16 : PySem.W.subIn K (.ref c15) (.ref c16) = some false)
    (ws15_17 : PySem.W.subIn K (.ref c15) (.ref c17) = some false)
    (ws15_18 : PySem.W.subIn K (.ref c15) (.ref c18) = some false)
    (ws15_19 : PySem.W.subIn K (.ref c15) (.ref c19) = some false)
    (ws15_20 : PySem.W.subIn K (.ref c15) (.ref c20) = some false)
    (ws15_21 : PySem.W.subIn K (.ref c15) (.ref c21) = some false)
    (wv15 : PySem.W.subIn K (.ref c15) (.type "ValueError") = some true)
    (wg15 : PySem.W.findIn K (.ref c15) "__getattribute__" = some (some (.builtin "BaseException.__getattribute__")))
    (wh15 : PySem.W.findIn K (.ref c15) "__getattr__" = some none)
    (wa15 : PySem.W.findIn K (.ref c15) "__class__" = some (some (.builtin "object.__class__")))
    (wm15 : PySem.W.mroIn K c15 (.type "object") = some true)
    (ws16_0 : PySem.W.subIn K (.ref c16) (.ref c0) = some true)
    (ws16_1 : PySem.W.subIn K (.ref c16) (.ref c1) = some false)
    (ws16_2 : PySem.W.subIn K (.ref c16) (.ref c2) = some false)
    (ws16_3 : PySem.W.subIn K (.ref c16) (.ref c3) = some false)
    (ws16_4 : PySem.W.subIn K (.ref c16) (.ref c4) = some false)
    (ws16_5 : PySem.W.subIn K (.ref c16) (.ref c5) = some false)
    (ws16_6 : PySem.W.subIn K (.ref c16) (.ref c6) = some false)
    (ws16_7 : PySem.W.subIn K (.ref c16) (.ref c7) = some false)
    (ws16_8 : PySem.W.subIn K (.ref c16) (.ref c8) = some false)
    (ws16_9 : PySem.W.subIn K (.ref c16) (.ref c9) = some false)
    (ws16_10 : PySem.W.subIn K (.ref c16) (.ref c10) = some false)
    (ws16_11 : PySem.W.subIn K (.ref c16) (.ref c11) = some false)
    (ws16_12 : PySem.W.subIn K (.ref c16) (.ref c12) = some false)
    (ws16_13 : PySem.W.subIn K (.ref c16) (.ref c13) = some false)
    (ws16_14 : PySem.W.subIn K (.ref c16) (.ref c14) = some false)
    (ws16_15 : PySem.W.subIn K (.ref c16) (.ref c15) = some false)
    (ws16_16 : PySem.W.subIn K (.ref c16) (.ref c16) = some true)
    (ws16_17 : PySem.W.subIn K (.ref c16) (.ref c17) = some false)
    (ws16_18 : PySem.W.subIn K (.ref c16) (.ref c18) = some false)
    (ws16_19 : PySem.W.subIn K (.ref c16) (.ref c19) = some false)
    (ws16_20 : PySem.W.subIn K (.ref c16) (.ref c20) = some false)
    (ws16_21 : PySem.W.subIn K (.ref c16) (.ref c21) = some false)
    (wv16 : PySem.W.subIn K (.ref c16) (.type "ValueError") = some true)
    (wg16 : PySem.W.findIn K (.ref c16) "__getattribute__" = some (some (.builtin "BaseException.__getattribute__")))
    (wh16 : PySem.W.findIn K (.ref c16) "__getattr__" = some none)
    (wa16 : PySem.W.findIn K (.ref c16) "__class__" = some (some (.builtin "object.__class__")))
    (wm16 : PySem.W.mroIn K c16 (.type "object") = some true)
    (z0 : PySem.W.nsIn K mainGlobals "ValueError" = some none)
    (z1 : PySem.W.nsIn K mainGlobals "all" = some none)
    (z2 : PySem.W.nsIn K mainGlobals "bool" = some none)
    (z3 : PySem.W.nsIn K mainGlobals "int" = some none)
    (z4 : PySem.W.nsIn K mainGlobals "isinstance" = some none)
    (z5 : PySem.W.nsIn K mainGlobals "len" = some none)
    (z6 : PySem.W.nsIn K mainGlobals "list" = some none)
    (z7 : PySem.W.nsIn K mainGlobals "range" = some none)
    (z8 : PySem.W.nsIn K mainGlobals "str" = some none)
    (z9 : PySem.W.nsIn K mainGlobals "tuple" = some none)
    (ga0 : PySem.W.nsIn K mainGlobals "LETTERS" = some (some (.str "abcdefghijklmnopqrstuvwxyz" g0)))
    (ga1 : PySem.W.nsIn K mainGlobals "FAR" = some (some (.int 1000 g1)))
    (a0 : PySem.W.nsIn K mainGlobals "is_whole" = some (some (.ref f0)))
    (l0 : K.lookup f0 = some ⟨oc0, od0, .func (PySem.W.fnOf "is_whole" "is_whole" (defArgs s_is_whole) (defBody s_is_whole) (defScope s_is_whole) .none kV0 dc0 pm0 an0 cd0 ct0), sl0⟩)
    (c0c : PySem.W.codeIn K cd0 "is_whole" = true)
    (k0 : PySem.W.keepIn K (.ref f0) = true)
    (a1 : PySem.W.nsIn K mainGlobals "is_boat" = some (some (.ref f1)))
    (l1 : K.lookup f1 = some ⟨oc1, od1, .func (PySem.W.fnOf "is_boat" "is_boat" (defArgs s_is_boat) (defBody s_is_boat) (defScope s_is_boat) .none kV1 dc1 pm1 an1 cd1 ct1), sl1⟩)
    (c1c : PySem.W.codeIn K cd1 "is_boat" = true)
    (k1 : PySem.W.keepIn K (.ref f1) = true)
    (a2 : PySem.W.nsIn K mainGlobals "is_hull" = some (some (.ref f2)))
    (l2 : K.lookup f2 = some ⟨oc2, od2, .func (PySem.W.fnOf "is_hull" "is_hull" (defArgs s_is_hull) (defBody s_is_hull) (defScope s_is_hull) .none kV2 dc2 pm2 an2 cd2 ct2), sl2⟩)
    (c2c : PySem.W.codeIn K cd2 "is_hull" = true)
    (k2 : PySem.W.keepIn K (.ref f2) = true)
    (a3 : PySem.W.nsIn K mainGlobals "is_wind" = some (some (.ref f3)))
    (l3 : K.lookup f3 = some ⟨oc3, od3, .func (PySem.W.fnOf "is_wind" "is_wind" (defArgs s_is_wind) (defBody s_is_wind) (defScope s_is_wind) .none kV3 dc3 pm3 an3 cd3 ct3), sl3⟩)
    (c3c : PySem.W.codeIn K cd3 "is_wind" = true)
    (k3 : PySem.W.keepIn K (.ref f3) = true)
    (a4 : PySem.W.nsIn K mainGlobals "need_hulls" = some (some (.ref f4)))
    (l4 : K.lookup f4 = some ⟨oc4, od4, .func (PySem.W.fnOf "need_hulls" "need_hulls" (defArgs s_need_hulls) (defBody s_need_hulls) (defScope s_need_hulls) .none kV4 dc4 pm4 an4 cd4 ct4), sl4⟩)
    (c4c : PySem.W.codeIn K cd4 "need_hulls" = true)
    (k4 : PySem.W.keepIn K (.ref f4) = true)
    (a5 : PySem.W.nsIn K mainGlobals "need_wind" = some (some (.ref f5)))
    (l5 : K.lookup f5 = some ⟨oc5, od5, .func (PySem.W.fnOf "need_wind" "need_wind" (defArgs s_need_wind) (defBody s_need_wind) (defScope s_need_wind) .none kV5 dc5 pm5 an5 cd5 ct5), sl5⟩)
    (c5c : PySem.W.codeIn K cd5 "need_wind" = true)
    (k5 : PySem.W.keepIn K (.ref f5) = true)
    (a6 : PySem.W.nsIn K mainGlobals "heading" = some (some (.ref f6)))
    (l6 : K.lookup f6 = some ⟨oc6, od6, .func (PySem.W.fnOf "heading" "heading" (defArgs s_heading) (defBody s_heading) (defScope s_heading) .none kV6 dc6 pm6 an6 cd6 ct6), sl6⟩)
    (c6c : PySem.W.codeIn K cd6 "heading" = true)
    (k6 : PySem.W.keepIn K (.ref f6) = true)
    (a7 : PySem.W.nsIn K mainGlobals "tack_of" = some (some (.ref f7)))
    (l7 : K.lookup f7 = some ⟨oc7, od7, .func (PySem.W.fnOf "tack_of" "tack_of" (defArgs s_tack_of) (defBody s_tack_of) (defScope s_tack_of) .none kV7 dc7 pm7 an7 cd7 ct7), sl7⟩)
    (c7c : PySem.W.codeIn K cd7 "tack_of" = true)
    (k7 : PySem.W.keepIn K (.ref f7) = true)
    (a8 : PySem.W.nsIn K mainGlobals "tack" = some (some (.ref f8)))
    (l8 : K.lookup f8 = some ⟨oc8, od8, .func (PySem.W.fnOf "tack" "tack" (defArgs s_tack) (defBody s_tack) (defScope s_tack) .none kV8 dc8 pm8 an8 cd8 ct8), sl8⟩)
    (c8c : PySem.W.codeIn K cd8 "tack" = true)
    (k8 : PySem.W.keepIn K (.ref f8) = true)
    (a9 : PySem.W.nsIn K mainGlobals "is_behind" = some (some (.ref f9)))
    (l9 : K.lookup f9 = some ⟨oc9, od9, .func (PySem.W.fnOf "is_behind" "is_behind" (defArgs s_is_behind) (defBody s_is_behind) (defScope s_is_behind) .none kV9 dc9 pm9 an9 cd9 ct9), sl9⟩)
    (c9c : PySem.W.codeIn K cd9 "is_behind" = true)
    (k9 : PySem.W.keepIn K (.ref f9) = true)
    (a10 : PySem.W.nsIn K mainGlobals "lie_of" = some (some (.ref f10)))
    (l10 : K.lookup f10 = some ⟨oc10, od10, .func (PySem.W.fnOf "lie_of" "lie_of" (defArgs s_lie_of) (defBody s_lie_of) (defScope s_lie_of) .none kV10 dc10 pm10 an10 cd10 ct10), sl10⟩)
    (c10c : PySem.W.codeIn K cd10 "lie_of" = true)
    (k10 : PySem.W.keepIn K (.ref f10) = true)
    (a11 : PySem.W.nsIn K mainGlobals "lie" = some (some (.ref f11)))
    (l11 : K.lookup f11 = some ⟨oc11, od11, .func (PySem.W.fnOf "lie" "lie" (defArgs s_lie) (defBody s_lie) (defScope s_lie) .none kV11 dc11 pm11 an11 cd11 ct11), sl11⟩)
    (c11c : PySem.W.codeIn K cd11 "lie" = true)
    (k11 : PySem.W.keepIn K (.ref f11) = true)
    (a12 : PySem.W.nsIn K mainGlobals "clear_of" = some (some (.ref f12)))
    (l12 : K.lookup f12 = some ⟨oc12, od12, .func (PySem.W.fnOf "clear_of" "clear_of" (defArgs s_clear_of) (defBody s_clear_of) (defScope s_clear_of) .none kV12 dc12 pm12 an12 cd12 ct12), sl12⟩)
    (c12c : PySem.W.codeIn K cd12 "clear_of" = true)
    (k12 : PySem.W.keepIn K (.ref f12) = true)
    (a13 : PySem.W.nsIn K mainGlobals "keeps_clear" = some (some (.ref f13)))
    (l13 : K.lookup f13 = some ⟨oc13, od13, .func (PySem.W.fnOf "keeps_clear" "keeps_clear" (defArgs s_keeps_clear) (defBody s_keeps_clear) (defScope s_keeps_clear) .none kV13 dc13 pm13 an13 cd13 ct13), sl13⟩)
    (c13c : PySem.W.codeIn K cd13 "keeps_clear" = true)
    (k13 : PySem.W.keepIn K (.ref f13) = true)
    (a14 : PySem.W.nsIn K mainGlobals "is_protest" = some (some (.ref f14)))
    (l14 : K.lookup f14 = some ⟨oc14, od14, .func (PySem.W.fnOf "is_protest" "is_protest" (defArgs s_is_protest) (defBody s_is_protest) (defScope s_is_protest) .none kV14 dc14 pm14 an14 cd14 ct14), sl14⟩)
    (c14c : PySem.W.codeIn K cd14 "is_protest" = true)
    (k14 : PySem.W.keepIn K (.ref f14) = true)
    (a15 : PySem.W.nsIn K mainGlobals "is_facts" = some (some (.ref f15)))
    (l15 : K.lookup f15 = some ⟨oc15, od15, .func (PySem.W.fnOf "is_facts" "is_facts" (defArgs s_is_facts) (defBody s_is_facts) (defScope s_is_facts) .none kV15 dc15 pm15 an15 cd15 ct15), sl15⟩)
    (c15c : PySem.W.codeIn K cd15 "is_facts" = true)
    (k15 : PySem.W.keepIn K (.ref f15) = true)
    (a16 : PySem.W.nsIn K mainGlobals "heard_of" = some (some (.ref f16)))
    (l16 : K.lookup f16 = some ⟨oc16, od16, .func (PySem.W.fnOf "heard_of" "heard_of" (defArgs s_heard_of) (defBody s_heard_of) (defScope s_heard_of) .none kV16 dc16 pm16 an16 cd16 ct16), sl16⟩)
    (c16c : PySem.W.codeIn K cd16 "heard_of" = true)
    (k16 : PySem.W.keepIn K (.ref f16) = true)
    (a17 : PySem.W.nsIn K mainGlobals "heard" = some (some (.ref f17)))
    (l17 : K.lookup f17 = some ⟨oc17, od17, .func (PySem.W.fnOf "heard" "heard" (defArgs s_heard) (defBody s_heard) (defScope s_heard) .none kV17 dc17 pm17 an17 cd17 ct17), sl17⟩)
    (c17c : PySem.W.codeIn K cd17 "heard" = true)
    (k17 : PySem.W.keepIn K (.ref f17) = true)
    (a18 : PySem.W.nsIn K mainGlobals "_law_draw" = some (some (.ref f18)))
    (l18 : K.lookup f18 = some ⟨oc18, od18, .func (PySem.W.fnOf "_law_draw" "_law_draw" (defArgs s__law_draw) (defBody s__law_draw) (defScope s__law_draw) .none kV18 dc18 pm18 an18 cd18 ct18), sl18⟩)
    (c18c : PySem.W.codeIn K cd18 "_law_draw" = true)
    (k18 : PySem.W.keepIn K (.ref f18) = true)
    (a19 : PySem.W.nsIn K mainGlobals "_law_pick" = some (some (.ref f19)))
    (l19 : K.lookup f19 = some ⟨oc19, od19, .func (PySem.W.fnOf "_law_pick" "_law_pick" (defArgs s__law_pick) (defBody s__law_pick) (defScope s__law_pick) .none kV19 dc19 pm19 an19 cd19 ct19), sl19⟩)
    (c19c : PySem.W.codeIn K cd19 "_law_pick" = true)
    (k19 : PySem.W.keepIn K (.ref f19) = true)
    (a20 : PySem.W.nsIn K mainGlobals "_law_which" = some (some (.ref f20)))
    (l20 : K.lookup f20 = some ⟨oc20, od20, .func (PySem.W.fnOf "_law_which" "_law_which" (defArgs s__law_which) (defBody s__law_which) (defScope s__law_which) .none kV20 dc20 pm20 an20 cd20 ct20), sl20⟩)
    (c20c : PySem.W.codeIn K cd20 "_law_which" = true)
    (k20 : PySem.W.keepIn K (.ref f20) = true)
    (a21 : PySem.W.nsIn K mainGlobals "_law_ask" = some (some (.ref f21)))
    (l21 : K.lookup f21 = some ⟨oc21, od21, .func (PySem.W.fnOf "_law_ask" "_law_ask" (defArgs s__law_ask) (defBody s__law_ask) (defScope s__law_ask) .none kV21 dc21 pm21 an21 cd21 ct21), sl21⟩)
    (c21c : PySem.W.codeIn K cd21 "_law_ask" = true)
    (k21 : PySem.W.keepIn K (.ref f21) = true)
    (a22 : PySem.W.nsIn K mainGlobals "_law_protests" = some (some (.ref f22)))
    (l22 : K.lookup f22 = some ⟨oc22, od22, .func (PySem.W.fnOf "_law_protests" "_law_protests" (defArgs s__law_protests) (defBody s__law_protests) (defScope s__law_protests) .none kV22 dc22 pm22 an22 cd22 ct22), sl22⟩)
    (c22c : PySem.W.codeIn K cd22 "_law_protests" = true)
    (k22 : PySem.W.keepIn K (.ref f22) = true)
    (a23 : PySem.W.nsIn K mainGlobals "_law_far" = some (some (.ref f23)))
    (l23 : K.lookup f23 = some ⟨oc23, od23, .func (PySem.W.fnOf "_law_far" "_law_far" (defArgs s__law_far) (defBody s__law_far) (defScope s__law_far) .none kV23 dc23 pm23 an23 cd23 ct23), sl23⟩)
    (c23c : PySem.W.codeIn K cd23 "_law_far" = true)
    (k23 : PySem.W.keepIn K (.ref f23) = true)
    (a24 : PySem.W.nsIn K mainGlobals "law" = some (some (.ref f24)))
    (l24 : K.lookup f24 = some ⟨oc24, od24, .func (PySem.W.fnOf "law" "law" (defArgs s_law) (defBody s_law) (defScope s_law) .none kV24 dc24 pm24 an24 cd24 ct24), sl24⟩)
    (c24c : PySem.W.codeIn K cd24 "law" = true)
    (k24 : PySem.W.keepIn K (.ref f24) = true) :
    ∃ fd : FuncData, (∀ (s : Shared) (v : Value), BindsTo s fd ⟨[v], []⟩ [("_law_script", v)]) ∧ ∀ base : Heap, K.In base → base.Ns mainGlobals mg → FnOk l.prog w K mg base (L2.CX l.prog w) 9 fa fd ["_law_script"] (spLaw K) := by
  have e := hfa.symm.trans (PySem.W.mg_of X G a24)
  cases e
  have F0 := fun_mk (st := s_is_whole) l0 c0c k0
  have b0 := F0.binds (ps := ["thing", "least", "most"]) fun _ _ _ _ _ _ us hl => match us, hl with | [_, _, _], _ => rfl
  have F1 := fun_mk (st := s_is_boat) l1 c1c k1
  have b1 := F1.binds (ps := ["thing"]) fun _ _ _ _ _ _ us hl => match us, hl with | [_], _ => rfl
  have F2 := fun_mk (st := s_is_hull) l2 c2c k2
  have b2 := F2.binds (ps := ["thing"]) fun _ _ _ _ _ _ us hl => match us, hl with | [_], _ => rfl
  have F3 := fun_mk (st := s_is_wind) l3 c3c k3
  have b3 := F3.binds (ps := ["thing"]) fun _ _ _ _ _ _ us hl => match us, hl with | [_], _ => rfl
  have F4 := fun_mk (st := s_need_hulls) l4 c4c k4
  have b4 := F4.binds (ps := ["some"]) fun _ _ _ _ _ _ us hl => match us, hl with | [_], _ => rfl
  have F5 := fun_mk (st := s_need_wind) l5 c5c k5
  have b5 := F5.binds (ps := ["thing"]) fun _ _ _ _ _ _ us hl => match us, hl with | [_], _ => rfl
  have F6 := fun_mk (st := s_heading) l6 c6c k6
  have b6 := F6.binds (ps := ["hull"]) fun _ _ _ _ _ _ us hl => match us, hl with | [_], _ => rfl
  have F7 := fun_mk (st := s_tack_of) l7 c7c k7
  have b7 := F7.binds (ps := ["hull", "wind"]) fun _ _ _ _ _ _ us hl => match us, hl with | [_, _], _ => rfl
  have F8 := fun_mk (st := s_tack) l8 c8c k8
  have b8 := F8.binds (ps := ["hull", "wind"]) fun _ _ _ _ _ _ us hl => match us, hl with | [_, _], _ => rfl
  have F9 := fun_mk (st := s_is_behind) l9 c9c k9
  have b9 := F9.binds (ps := ["one", "other"]) fun _ _ _ _ _ _ us hl => match us, hl with | [_, _], _ => rfl
  have F10 := fun_mk (st := s_lie_of) l10 c10c k10
  have b10 := F10.binds (ps := ["one", "other"]) fun _ _ _ _ _ _ us hl => match us, hl with | [_, _], _ => rfl
  have F11 := fun_mk (st := s_lie) l11 c11c k11
  have b11 := F11.binds (ps := ["one", "other"]) fun _ _ _ _ _ _ us hl => match us, hl with | [_, _], _ => rfl
  have F12 := fun_mk (st := s_clear_of) l12 c12c k12
  have b12 := F12.binds (ps := ["one", "other", "wind"]) fun _ _ _ _ _ _ us hl => match us, hl with | [_, _, _], _ => rfl
  have F13 := fun_mk (st := s_keeps_clear) l13 c13c k13
  have b13 := F13.binds (ps := ["one", "other", "wind"]) fun _ _ _ _ _ _ us hl => match us, hl with | [_, _, _], _ => rfl
  have F14 := fun_mk (st := s_is_protest) l14 c14c k14
  have b14 := F14.binds (ps := ["thing"]) fun _ _ _ _ _ _ us hl => match us, hl with | [_], _ => rfl
  have F15 := fun_mk (st := s_is_facts) l15 c15c k15
  have b15 := F15.binds (ps := ["thing"]) fun _ _ _ _ _ _ us hl => match us, hl with | [_], _ => rfl
  have F16 := fun_mk (st := s_heard_of) l16 c16c k16
  have b16 := F16.binds (ps := ["protest", "found"]) fun _ _ _ _ _ _ us hl => match us, hl with | [_, _], _ => rfl
  have F17 := fun_mk (st := s_heard) l17 c17c k17
  have b17 := F17.binds (ps := ["protest", "found"]) fun _ _ _ _ _ _ us hl => match us, hl with | [_, _], _ => rfl
  have F18 := fun_mk (st := s__law_draw) l18 c18c k18
  have b18 := F18.binds (ps := ["_law_script", "_law_town", "_law_many"]) fun _ _ _ _ _ _ us hl => match us, hl with | [_, _, _], _ => rfl
  have F19 := fun_mk (st := s__law_pick) l19 c19c k19
  have b19 := F19.binds (ps := ["_law_script", "_law_town", "_law_some"]) fun _ _ _ _ _ _ us hl => match us, hl with | [_, _, _], _ => rfl
  have F20 := fun_mk (st := s__law_which) l20 c20c k20
  have b20 := F20.binds (ps := ["_law_e"]) fun _ _ _ _ _ _ us hl => match us, hl with | [_], _ => rfl
  have F21 := fun_mk (st := s__law_ask) l21 c21c k21
  have b21 := F21.binds (ps := ["_law_what", "_law_one", "_law_other", "_law_third"]) fun _ _ _ _ _ _ us hl => match us, hl with | [_, _, _, _], _ => rfl
  have F22 := fun_mk (st := s__law_protests) l22 c22c k22
  have b22 := F22.binds (ps := ["_law_good", "_law_facts"]) fun _ _ _ _ _ _ us hl => match us, hl with | [_, _], _ => rfl
  have F23 := fun_mk (st := s__law_far) l23 c23c k23
  have b23 := F23.binds (ps := ["_law_hull", "_law_wind", "_law_good"]) fun _ _ _ _ _ _ us hl => match us, hl with | [_, _, _], _ => rfl
  have F24 := fun_mk (st := s_law) l24 c24c k24
  have B : BB K mg (fun n => if n = 0 then c0 else if n = 1 then c1 else if n = 2 then c2 else if n = 3 then c3 else if n = 4 then c4 else if n = 5 then c5 else if n = 6 then c6 else if n = 7 then c7 else if n = 8 then c8 else if n = 9 then c9 else if n = 10 then c10 else if n = 11 then c11 else if n = 12 then c12 else if n = 13 then c13 else if n = 14 then c14 else if n = 15 then c15 else if n = 16 then c16 else if n = 17 then c17 else if n = 18 then c18 else if n = 19 then c19 else if n = 20 then c20 else if n = 21 then c21 else 0) := {
    n_ValueError := PySem.W.mg_none_of X G z0
    n_all := PySem.W.mg_none_of X G z1
    n_bool := PySem.W.mg_none_of X G z2
    n_int := PySem.W.mg_none_of X G z3
    n_isinstance := PySem.W.mg_none_of X G z4
    n_len := PySem.W.mg_none_of X G z5
    n_list := PySem.W.mg_none_of X G z6
    n_range := PySem.W.mg_none_of X G z7
    n_str := PySem.W.mg_none_of X G z8
    n_tuple := PySem.W.mg_none_of X G z9
    e_RaceError := ⟨PySem.W.mg_of X G ea0, ex0, ek0, es0, et0⟩
    e_NoShare := ⟨PySem.W.mg_of X G ea1, ex1, ek1, es1, et1⟩
    e_NoTide := ⟨PySem.W.mg_of X G ea2, ex2, ek2, es2, et2⟩
    e_NoNumber := ⟨PySem.W.mg_of X G ea3, ex3, ek3, es3, et3⟩
    e_NoTrack := ⟨PySem.W.mg_of X G ea4, ex4, ek4, es4, et4⟩
    e_NoGate := ⟨PySem.W.mg_of X G ea5, ex5, ek5, es5, et5⟩
    e_NoCourse := ⟨PySem.W.mg_of X G ea6, ex6, ek6, es6, et6⟩
    e_NoRule := ⟨PySem.W.mg_of X G ea7, ex7, ek7, es7, et7⟩
    e_NoEntries := ⟨PySem.W.mg_of X G ea8, ex8, ek8, es8, et8⟩
    e_NoRace := ⟨PySem.W.mg_of X G ea9, ex9, ek9, es9, et9⟩
    e_NoSeries := ⟨PySem.W.mg_of X G ea10, ex10, ek10, es10, et10⟩
    e_NoDrops := ⟨PySem.W.mg_of X G ea11, ex11, ek11, es11, et11⟩
    e_NoBoat := ⟨PySem.W.mg_of X G ea12, ex12, ek12, es12, et12⟩
    e_NoHull := ⟨PySem.W.mg_of X G ea13, ex13, ek13, es13, et13⟩
    e_NoWind := ⟨PySem.W.mg_of X G ea14, ex14, ek14, es14, et14⟩
    e_NoProtest := ⟨PySem.W.mg_of X G ea15, ex15, ek15, es15, et15⟩
    e_NoFacts := ⟨PySem.W.mg_of X G ea16, ex16, ek16, es16, et16⟩
    e_NoOutcome := ⟨PySem.W.mg_of X G ea17, ex17, ek17, es17, et17⟩
    e_Taken := ⟨PySem.W.mg_of X G ea18, ex18, ek18, es18, et18⟩
    e_NoThing := ⟨PySem.W.mg_of X G ea19, ex19, ek19, es19, et19⟩
    e_NoDeed := ⟨PySem.W.mg_of X G ea20, ex20, ek20, es20, et20⟩
    e_NoText := ⟨PySem.W.mg_of X G ea21, ex21, ek21, es21, et21⟩
    c_LETTERS := ⟨_, PySem.W.mg_of X G ga0⟩
    c_FAR := ⟨_, PySem.W.mg_of X G ga1⟩
    d_is_whole := ⟨_, _, F0, PySem.W.mg_of X G a0, b0⟩
    d_is_boat := ⟨_, _, F1, PySem.W.mg_of X G a1, b1⟩
    d_is_hull := ⟨_, _, F2, PySem.W.mg_of X G a2, b2⟩
    d_is_wind := ⟨_, _, F3, PySem.W.mg_of X G a3, b3⟩
    d_need_hulls := ⟨_, _, F4, PySem.W.mg_of X G a4, b4⟩
    d_need_wind := ⟨_, _, F5, PySem.W.mg_of X G a5, b5⟩
    d_heading := ⟨_, _, F6, PySem.W.mg_of X G a6, b6⟩
    d_tack_of := ⟨_, _, F7, PySem.W.mg_of X G a7, b7⟩
    d_tack := ⟨_, _, F8, PySem.W.mg_of X G a8, b8⟩
    d_is_behind := ⟨_, _, F9, PySem.W.mg_of X G a9, b9⟩
    d_lie_of := ⟨_, _, F10, PySem.W.mg_of X G a10, b10⟩
    d_lie := ⟨_, _, F11, PySem.W.mg_of X G a11, b11⟩
    d_clear_of := ⟨_, _, F12, PySem.W.mg_of X G a12, b12⟩
    d_keeps_clear := ⟨_, _, F13, PySem.W.mg_of X G a13, b13⟩
    d_is_protest := ⟨_, _, F14, PySem.W.mg_of X G a14, b14⟩
    d_is_facts := ⟨_, _, F15, PySem.W.mg_of X G a15, b15⟩
    d_heard_of := ⟨_, _, F16, PySem.W.mg_of X G a16, b16⟩
    d_heard := ⟨_, _, F17, PySem.W.mg_of X G a17, b17⟩
    d__law_draw := ⟨_, _, F18, PySem.W.mg_of X G a18, b18⟩
    d__law_pick := ⟨_, _, F19, PySem.W.mg_of X G a19, b19⟩
    d__law_which := ⟨_, _, F20, PySem.W.mg_of X G a20, b20⟩
    d__law_ask := ⟨_, _, F21, PySem.W.mg_of X G a21, b21⟩
    d__law_protests := ⟨_, _, F22, PySem.W.mg_of X G a22, b22⟩
    d__law_far := ⟨_, _, F23, PySem.W.mg_of X G a23, b23⟩
    w_cc := fun c hc => by
      rcases (show c = 13 ∨ c = 14 ∨ c = 15 ∨ c = 16 by simp [okcW] at hc; omega) with rfl | rfl | rfl | rfl
      · exact ⟨wg13, wh13, es13, wd13, wa13, wn, wt, wm13⟩
      · exact ⟨wg14, wh14, es14, wd14, wa14, wn, wt, wm14⟩
      · exact ⟨wg15, wh15, es15, wd15, wa15, wn, wt, wm15⟩
      · exact ⟨wg16, wh16, es16, wd16, wa16, wn, wt, wm16⟩
    w_kv := fun c hc => by
      rcases (show c = 13 ∨ c = 14 ∨ c = 15 ∨ c = 16 by simp [okcW] at hc; omega) with rfl | rfl | rfl | rfl
      · exact kit_sub (by decide +kernel) wv13
      · exact kit_sub (by decide +kernel) wv14
      · exact kit_sub (by decide +kernel) wv15
      · exact kit_sub (by decide +kernel) wv16
    w_ex := fun c hc => by
      rcases (show c = 13 ∨ c = 14 ∨ c = 15 ∨ c = 16 by simp [okcW] at hc; omega) with rfl | rfl | rfl | rfl
      · exact PySem.W.exm_ref es0 wd0 et0 ws13_0
      · exact PySem.W.exm_ref es0 wd0 et0 ws14_0
      · exact PySem.W.exm_ref es0 wd0 et0 ws15_0
      · exact PySem.W.exm_ref es0 wd0 et0 ws16_0
    w_k1 := fun c hc => by
      rcases (show c = 13 ∨ c = 14 ∨ c = 15 ∨ c = 16 by simp [okcW] at hc; omega) with rfl | rfl | rfl | rfl
      · exact kit_ref wd1 et1 ws13_1 ws13_13
      · exact kit_ref wd1 et1 ws14_1 ws14_14
      · exact kit_ref wd1 et1 ws15_1 ws15_15
      · exact kit_ref wd1 et1 ws16_1 ws16_16
    w_k2 := fun c hc => by
      rcases (show c = 13 ∨ c = 14 ∨ c = 15 ∨ c = 16 by simp [okcW] at hc; omega) with rfl | rfl | rfl | rfl
      · exact kit_ref wd2 et2 ws13_2 ws13_13
      · exact kit_ref wd2 et2 ws14_2 ws14_14
      · exact kit_ref wd2 et2 ws15_2 ws15_15
      · exact kit_ref wd2 et2 ws16_2 ws16_16
    w_k3 := fun c hc => by
      rcases (show c = 13 ∨ c = 14 ∨ c = 15 ∨ c = 16 by simp [okcW] at hc; omega) with rfl | rfl | rfl | rfl
      · exact kit_ref wd3 et3 ws13_3 ws13_13
      · exact kit_ref wd3 et3 ws14_3 ws14_14
      · exact kit_ref wd3 et3 ws15_3 ws15_15
      · exact kit_ref wd3 et3 ws16_3 ws16_16
    w_k4 := fun c hc => by
      rcases (show c = 13 ∨ c = 14 ∨ c = 15 ∨ c = 16 by simp [okcW] at hc; omega) with rfl | rfl | rfl | rfl
      · exact kit_ref wd4 et4 ws13_4 ws13_13
      · exact kit_ref wd4 et4 ws14_4 ws14_14
      · exact kit_ref wd4 et4 ws15_4 ws15_15
      · exact kit_ref wd4 et4 ws16_4 ws16_16
    w_k5 := fun c hc => by
      rcases (show c = 13 ∨ c = 14 ∨ c = 15 ∨ c = 16 by simp [okcW] at hc; omega) with rfl | rfl | rfl | rfl
      · exact kit_ref wd5 et5 ws13_5 ws13_13
      · exact kit_ref wd5 et5 ws14_5 ws14_14
      · exact kit_ref wd5 et5 ws15_5 ws15_15
      · exact kit_ref wd5 et5 ws16_5 ws16_16
    w_k6 := fun c hc => by
      rcases (show c = 13 ∨ c = 14 ∨ c = 15 ∨ c = 16 by simp [okcW] at hc; omega) with rfl | rfl | rfl | rfl
      · exact kit_ref wd6 et6 ws13_6 ws13_13
      · exact kit_ref wd6 et6 ws14_6 ws14_14
      · exact kit_ref wd6 et6 ws15_6 ws15_15
      · exact kit_ref wd6 et6 ws16_6 ws16_16
    w_k7 := fun c hc => by
      rcases (show c = 13 ∨ c = 14 ∨ c = 15 ∨ c = 16 by simp [okcW] at hc; omega) with rfl | rfl | rfl | rfl
      · exact kit_ref wd7 et7 ws13_7 ws13_13
      · exact kit_ref wd7 et7 ws14_7 ws14_14
      · exact kit_ref wd7 et7 ws15_7 ws15_15
      · exact kit_ref wd7 et7 ws16_7 ws16_16
    w_k8 := fun c hc => by
      rcases (show c = 13 ∨ c = 14 ∨ c = 15 ∨ c = 16 by simp [okcW] at hc; omega) with rfl | rfl | rfl | rfl
      · exact kit_ref wd8 et8 ws13_8 ws13_13
      · exact kit_ref wd8 et8 ws14_8 ws14_14
      · exact kit_ref wd8 et8 ws15_8 ws15_15
      · exact kit_ref wd8 et8 ws16_8 ws16_16
    w_k9 := fun c hc => by
      rcases (show c = 13 ∨ c = 14 ∨ c = 15 ∨ c = 16 by simp [okcW] at hc; omega) with rfl | rfl | rfl | rfl
      · exact kit_ref wd9 et9 ws13_9 ws13_13
      · exact kit_ref wd9 et9 ws14_9 ws14_14
      · exact kit_ref wd9 et9 ws15_9 ws15_15
      · exact kit_ref wd9 et9 ws16_9 ws16_16
    w_k10 := fun c hc => by
      rcases (show c = 13 ∨ c = 14 ∨ c = 15 ∨ c = 16 by simp [okcW] at hc; omega) with rfl | rfl | rfl | rfl
      · exact kit_ref wd10 et10 ws13_10 ws13_13
      · exact kit_ref wd10 et10 ws14_10 ws14_14
      · exact kit_ref wd10 et10 ws15_10 ws15_15
      · exact kit_ref wd10 et10 ws16_10 ws16_16
    w_k11 := fun c hc => by
      rcases (show c = 13 ∨ c = 14 ∨ c = 15 ∨ c = 16 by simp [okcW] at hc; omega) with rfl | rfl | rfl | rfl
      · exact kit_ref wd11 et11 ws13_11 ws13_13
      · exact kit_ref wd11 et11 ws14_11 ws14_14
      · exact kit_ref wd11 et11 ws15_11 ws15_15
      · exact kit_ref wd11 et11 ws16_11 ws16_16
    w_k12 := fun c hc => by
      rcases (show c = 13 ∨ c = 14 ∨ c = 15 ∨ c = 16 by simp [okcW] at hc; omega) with rfl | rfl | rfl | rfl
      · exact kit_ref wd12 et12 ws13_12 ws13_13
      · exact kit_ref wd12 et12 ws14_12 ws14_14
      · exact kit_ref wd12 et12 ws15_12 ws15_15
      · exact kit_ref wd12 et12 ws16_12 ws16_16
    w_k13 := fun c hc => by
      rcases (show c = 13 ∨ c = 14 ∨ c = 15 ∨ c = 16 by simp [okcW] at hc; omega) with rfl | rfl | rfl | rfl
      · exact kit_ref wd13 et13 ws13_13 ws13_13
      · exact kit_ref wd13 et13 ws14_13 ws14_14
      · exact kit_ref wd13 et13 ws15_13 ws15_15
      · exact kit_ref wd13 et13 ws16_13 ws16_16
    w_k14 := fun c hc => by
      rcases (show c = 13 ∨ c = 14 ∨ c = 15 ∨ c = 16 by simp [okcW] at hc; omega) with rfl | rfl | rfl | rfl
      · exact kit_ref wd14 et14 ws13_14 ws13_13
      · exact kit_ref wd14 et14 ws14_14 ws14_14
      · exact kit_ref wd14 et14 ws15_14 ws15_15
      · exact kit_ref wd14 et14 ws16_14 ws16_16
    w_k15 := fun c hc => by
      rcases (show c = 13 ∨ c = 14 ∨ c = 15 ∨ c = 16 by simp [okcW] at hc; omega) with rfl | rfl | rfl | rfl
      · exact kit_ref wd15 et15 ws13_15 ws13_13
      · exact kit_ref wd15 et15 ws14_15 ws14_14
      · exact kit_ref wd15 et15 ws15_15 ws15_15
      · exact kit_ref wd15 et15 ws16_15 ws16_16
    w_k16 := fun c hc => by
      rcases (show c = 13 ∨ c = 14 ∨ c = 15 ∨ c = 16 by simp [okcW] at hc; omega) with rfl | rfl | rfl | rfl
      · exact kit_ref wd16 et16 ws13_16 ws13_13
      · exact kit_ref wd16 et16 ws14_16 ws14_14
      · exact kit_ref wd16 et16 ws15_16 ws15_15
      · exact kit_ref wd16 et16 ws16_16 ws16_16
    w_k17 := fun c hc => by
      rcases (show c = 13 ∨ c = 14 ∨ c = 15 ∨ c = 16 by simp [okcW] at hc; omega) with rfl | rfl | rfl | rfl
      · exact kit_ref wd17 et17 ws13_17 ws13_13
      · exact kit_ref wd17 et17 ws14_17 ws14_14
      · exact kit_ref wd17 et17 ws15_17 ws15_15
      · exact kit_ref wd17 et17 ws16_17 ws16_16
    w_k18 := fun c hc => by
      rcases (show c = 13 ∨ c = 14 ∨ c = 15 ∨ c = 16 by simp [okcW] at hc; omega) with rfl | rfl | rfl | rfl
      · exact kit_ref wd18 et18 ws13_18 ws13_13
      · exact kit_ref wd18 et18 ws14_18 ws14_14
      · exact kit_ref wd18 et18 ws15_18 ws15_15
      · exact kit_ref wd18 et18 ws16_18 ws16_16
    w_k19 := fun c hc => by
      rcases (show c = 13 ∨ c = 14 ∨ c = 15 ∨ c = 16 by simp [okcW] at hc; omega) with rfl | rfl | rfl | rfl
      · exact kit_ref wd19 et19 ws13_19 ws13_13
      · exact kit_ref wd19 et19 ws14_19 ws14_14
      · exact kit_ref wd19 et19 ws15_19 ws15_15
      · exact kit_ref wd19 et19 ws16_19 ws16_16
    w_k20 := fun c hc => by
      rcases (show c = 13 ∨ c = 14 ∨ c = 15 ∨ c = 16 by simp [okcW] at hc; omega) with rfl | rfl | rfl | rfl
      · exact kit_ref wd20 et20 ws13_20 ws13_13
      · exact kit_ref wd20 et20 ws14_20 ws14_14
      · exact kit_ref wd20 et20 ws15_20 ws15_15
      · exact kit_ref wd20 et20 ws16_20 ws16_16
    w_k21 := fun c hc => by
      rcases (show c = 13 ∨ c = 14 ∨ c = 15 ∨ c = 16 by simp [okcW] at hc; omega) with rfl | rfl | rfl | rfl
      · exact kit_ref wd21 et21 ws13_21 ws13_13
      · exact kit_ref wd21 et21 ws14_21 ws14_14
      · exact kit_ref wd21 et21 ws15_21 ws15_15
      · exact kit_ref wd21 et21 ws16_21 ws16_16 }
  exact ⟨PySem.W.fnOf "law" "law" (defArgs s_law) (defBody s_law) (defScope s_law) .none kV24 dc24 pm24 an24 cd24 ct24, fun s v => .of_eq rfl, fun base _ _ => ok_law B F24 (fun ns hl => law_true ns)⟩
theorem walk {l : PySem.W.OpenLaw} {q : Program} {loose : List Str} {XP : (Str → Option Value) → Heap → Prop} {YP : World → Heap → Prop} {d : DefRec} {K : Params → PySem.W.Frag} (hn : l.most = some 63) (hdf : d.params.defaults = [])
    (hY : ∀ (w : World) (h : Heap), YP w h → (K w.params).In h)
    (F : ∀ (w : World) (mg : Str → Option Value) (fa : Addr) (h : Heap), (K w.params).In h → h.Ns mainGlobals mg → mg d.name = some (.ref fa) →
      ∃ fd : FuncData, (∀ (s : Shared) (u : Value), BindsTo s fd ⟨[u], []⟩ [("_law_script", u)]) ∧ ∀ base : Heap, (K w.params).In base → base.Ns mainGlobals mg → FnOk l.prog w (K w.params) mg base (L2.CX l.prog w) 9 fa fd ["_law_script"] (spLaw (K w.params))) :
    PySem.W.WalkO q loose XP YP l.row.toRowW d [] (fun f vs => PySem.call f vs) :=
  L2.walk_of (n := 63) (k := 9) (x := "_law_script") (CX := fun w => L2.CX l.prog w) (sp := fun w => spLaw (K w.params)) hn (by decide) hdf ⟨rfl, by decide, by decide⟩ hY F (fun _ _ a ns hl _ hS => ⟨a, ns, rfl, hS, hl, fun _ => rfl⟩) fun _ _ _ _ _ z => by
    obtain ⟨_, _, _, _, _, _, _, _, _, _, _, _, z⟩ := z
    exact z
end Pm
open PySem PySem.W PyProof.Rows
set_option maxRecDepth 100000 in
set_option maxHeartbeats 0 in
theorem PySem.Challenge.cw_racerows_k10_rights_refused_holds : PySem.Challenge.rw_racerows_k10_rights_refused.Holds := by
  w_on; o_law; k_head; (case hw => w_witness2)
  k_fill
  refine Pm.walk (l := PySem.Challenge.rw_racerows_k10_rights_refused) rfl rfl (fun w h Y => PySem.W.kIn_of Y) ?F
  case F =>
    intro w mg fa h KX G hmg
    refine' Pm.all_mk KX G hmg ?ea0 ?ex0 ?ek0 ?es0 ?et0 ?ea1 ?ex1 ?ek1 ?es1 ?et1 ?ea2 ?ex2 ?ek2 ?es2 ?et2 ?ea3 ?ex3 ?ek3 ?es3 ?et3 ?ea4 ?ex4 ?ek4 ?es4 ?et4 ?ea5 ?ex5 ?ek5 ?es5 ?et5 ?ea6 ?ex6 ?ek6 ?es6 ?et6 ?ea7 ?ex7 ?ek7 ?es7 ?et7 ?ea8 ?ex8 ?ek8 ?es8 ?et8 ?ea9 ?ex9 ?ek9 ?es9 ?et9 ?ea10 ?ex10 ?ek10 ?es10 ?et10 ?ea11 ?ex11 ?ek11 ?es11 ?et11 ?ea12 ?ex12 ?ek12 ?es12 ?et12 ?ea13 ?ex13 ?ek13 ?es13 ?et13 ?ea14 ?ex14 ?ek14 ?es14 ?et14 ?ea15 ?ex15 ?ek15 ?es15 ?et15 ?ea16 ?ex16 ?ek16 ?es16 ?et16 ?ea17 ?ex17 ?ek17 ?es17 ?et17 ?ea18 ?ex18 ?ek18 ?es18 ?et18 ?ea19 ?ex19 ?ek19 ?es19 ?et19 ?ea20 ?ex20 ?ek20 ?es20 ?et20 ?ea21 ?ex21 ?ek21 ?es21 ?et21 ?wd0 ?wd1 ?wd2 ?wd3 ?wd4 ?wd5 ?wd6 ?wd7 ?wd8 ?wd9 ?wd10 ?wd11 ?wd12 ?wd13 ?wd14 ?wd15 ?wd16 ?wd17 ?wd18 ?wd19 ?wd20 ?wd21 ?wn ?wt ?ws13_0 ?ws13_1 ?ws13_2 ?ws13_3 ?ws13_4 ?ws13_5 ?ws13_6 ?ws13_7 ?ws13_8 ?ws13_9 ?ws13_10 ?ws13_11 ?ws13_12 ?ws13_13 ?ws13_14 ?ws13_15 ?ws13_16 ?ws13_17 ?ws13_18 ?ws13_19 ?ws13_20 ?ws13_21 ?wv13 ?wg13 ?wh13 ?wa13 ?wm13 ?ws14_0 ?ws14_1 ?ws14_2 ?ws14_3 ?ws14_4 ?ws14_5 ?ws14_6 ?ws14_7 ?ws14_8 ?ws14_9 ?ws14_10 ?ws14_11 ?ws14_12 ?ws14_13 ?ws14_14 ?ws14_15 ?ws14_16 ?ws14_17 ?ws14_18 ?ws14_19 ?ws14_20 ?ws14_21 ?wv14 ?wg14 ?wh14 ?wa14 ?wm14 ?ws15_0 ?ws15_1 ?ws15_2 ?ws15_3 ?ws15_4 ?ws15_5 ?ws15_6 ?ws15_7 ?ws15_8 ?ws15_9 ?ws15_10 ?ws15_11 ?ws15_12 ?ws15_13 ?ws15_14 ?ws15_15 ?ws15_16 ?ws15_17 ?ws15_18 ?ws15_19 ?ws15_20 ?ws15_21 ?wv15 ?wg15 ?wh15 ?wa15 ?wm15 ?ws16_0 ?ws16_1 ?ws16_2 ?ws16_3 ?ws16_4 ?ws16_5 ?ws16_6 ?ws16_7 ?ws16_8 ?ws16_9 ?ws16_10 ?ws16_11 ?ws16_12 ?ws16_13 ?ws16_14 ?ws16_15 ?ws16_16 ?ws16_17 ?ws16_18 ?ws16_19 ?ws16_20 ?ws16_21 ?wv16 ?wg16 ?wh16 ?wa16 ?wm16 ?z0 ?z1 ?z2 ?z3 ?z4 ?z5 ?z6 ?z7 ?z8 ?z9 ?ga0 ?ga1 ?a0 ?l0 ?c0c ?k0 ?a1 ?l1 ?c1c ?k1 ?a2 ?l2 ?c2c ?k2 ?a3 ?l3 ?c3c ?k3 ?a4 ?l4 ?c4c ?k4 ?a5 ?l5 ?c5c ?k5 ?a6 ?l6 ?c6c ?k6 ?a7 ?l7 ?c7c ?k7 ?a8 ?l8 ?c8c ?k8 ?a9 ?l9 ?c9c ?k9 ?a10 ?l10 ?c10c ?k10 ?a11 ?l11 ?c11c ?k11 ?a12 ?l12 ?c12c ?k12 ?a13 ?l13 ?c13c ?k13 ?a14 ?l14 ?c14c ?k14 ?a15 ?l15 ?c15c ?k15 ?a16 ?l16 ?c16c ?k16 ?a17 ?l17 ?c17c ?k17 ?a18 ?l18 ?c18c ?k18 ?a19 ?l19 ?c19c ?k19 ?a20 ?l20 ?c20c ?k20 ?a21 ?l21 ?c21c ?k21 ?a22 ?l22 ?c22c ?k22 ?a23 ?l23 ?c23c ?k23 ?a24 ?l24 ?c24c ?k24
    (case ea0 => k_is)
    (case ex0 => k_exc)
    (case ek0 => k_is)
    (case es0 => k_is)
    (case et0 => k_is)
    (case ea1 => k_is)
    (case ex1 => k_exc)
    (case ek1 => k_is)
    (case es1 => k_is)
    (case et1 => k_is)
    (case ea2 => k_is)
    (case ex2 => k_exc)
    (case ek2 => k_is)
    (case es2 => k_is)
    (case et2 => k_is)
    (case ea3 => k_is)
    (case ex3 => k_exc)
    (case ek3 => k_is)
    (case es3 => k_is)
    (case et3 => k_is)
    (case ea4 => k_is)
    (case ex4 => k_exc)
    (case ek4 => k_is)
    (case es4 => k_is)
    (case et4 => k_is)
    (case ea5 => k_is)
    (case ex5 => k_exc)
    (case ek5 => k_is)
    (case es5 => k_is)
    (case et5 => k_is)
    (case ea6 => k_is)
    (case ex6 => k_exc)
    (case ek6 => k_is)
    (case es6 => k_is)
    (case et6 => k_is)
    (case ea7 => k_is)
    (case ex7 => k_exc)
    (case ek7 => k_is)
    (case es7 => k_is)
    (case et7 => k_is)
    (case ea8 => k_is)
    (case ex8 => k_exc)
    (case ek8 => k_is)
    (case es8 => k_is)
    (case et8 => k_is)
    (case ea9 => k_is)
    (case ex9 => k_exc)
    (case ek9 => k_is)
    (case es9 => k_is)
    (case et9 => k_is)
    (case ea10 => k_is)
    (case ex10 => k_exc)
    (case ek10 => k_is)
    (case es10 => k_is)
    (case et10 => k_is)
    (case ea11 => k_is)
    (case ex11 => k_exc)
    (case ek11 => k_is)
    (case es11 => k_is)
    (case et11 => k_is)
    (case ea12 => k_is)
    (case ex12 => k_exc)
    (case ek12 => k_is)
    (case es12 => k_is)
    (case et12 => k_is)
    (case ea13 => k_is)
    (case ex13 => k_exc)
    (case ek13 => k_is)
    (case es13 => k_is)
    (case et13 => k_is)
    (case ea14 => k_is)
    (case ex14 => k_exc)
    (case ek14 => k_is)
    (case es14 => k_is)
    (case et14 => k_is)
    (case ea15 => k_is)
    (case ex15 => k_exc)
    (case ek15 => k_is)
    (case es15 => k_is)
    (case et15 => k_is)
    (case ea16 => k_is)
    (case ex16 => k_exc)
    (case ek16 => k_is)
    (case es16 => k_is)
    (case et16 => k_is)
    (case ea17 => k_is)
    (case ex17 => k_exc)
    (case ek17 => k_is)
    (case es17 => k_is)
    (case et17 => k_is)
    (case ea18 => k_is)
    (case ex18 => k_exc)
    (case ek18 => k_is)
    (case es18 => k_is)
    (case et18 => k_is)
    (case ea19 => k_is)
    (case ex19 => k_exc)
    (case ek19 => k_is)
    (case es19 => k_is)
    (case et19 => k_is)
    (case ea20 => k_is)
    (case ex20 => k_exc)
    (case ek20 => k_is)
    (case es20 => k_is)
    (case et20 => k_is)
    (case ea21 => k_is)
    (case ex21 => k_exc)
    (case ek21 => k_is)
    (case es21 => k_is)
    (case et21 => k_is)
    (case wd0 => k_is)
    (case wd1 => k_is)
    (case wd2 => k_is)
    (case wd3 => k_is)
    (case wd4 => k_is)
    (case wd5 => k_is)
    (case wd6 => k_is)
    (case wd7 => k_is)
    (case wd8 => k_is)
    (case wd9 => k_is)
    (case wd10 => k_is)
    (case wd11 => k_is)
    (case wd12 => k_is)
    (case wd13 => k_is)
    (case wd14 => k_is)
    (case wd15 => k_is)
    (case wd16 => k_is)
    (case wd17 => k_is)
    (case wd18 => k_is)
    (case wd19 => k_is)
    (case wd20 => k_is)
    (case wd21 => k_is)
    (case wn => k_is)
    (case wt => k_is)
    (case ws13_0 => k_is)
    (case ws13_1 => k_is)
    (case ws13_2 => k_is)
    (case ws13_3 => k_is)
    (case ws13_4 => k_is)
    (case ws13_5 => k_is)
    (case ws13_6 => k_is)
    (case ws13_7 => k_is)
    (case ws13_8 => k_is)
    (case ws13_9 => k_is)
    (case ws13_10 => k_is)
    (case ws13_11 => k_is)
    (case ws13_12 => k_is)
    (case ws13_13 => k_is)
    (case ws13_14 => k_is)
    (case ws13_15 => k_is)
    (case ws13_16 => k_is)
    (case ws13_17 => k_is)
    (case ws13_18 => k_is)
    (case ws13_19 => k_is)
    (case ws13_20 => k_is)
    (case ws13_21 => k_is)
    (case wv13 => k_is)
    (case wg13 => k_is)
    (case wh13 => k_is)
    (case wa13 => k_is)
    (case wm13 => k_is)
    (case ws14_0 => k_is)
    (case ws14_1 => k_is)
    (case ws14_2 => k_is)
    (case ws14_3 => k_is)
    (case ws14_4 => k_is)
    (case ws14_5 => k_is)
    (case ws14_6 => k_is)
    (case ws14_7 => k_is)
    (case ws14_8 => k_is)
    (case ws14_9 => k_is)
    (case ws14_10 => k_is)
    (case ws14_11 => k_is)
    (case ws14_12 => k_is)
    (case ws14_13 => k_is)
    (case ws14_14 => k_is)
    (case ws14_15 => k_is)
    (case ws14_16 => k_is)
    (case ws14_17 => k_is)
    (case ws14_18 => k_is)
    (case ws14_19 => k_is)
    (case ws14_20 => k_is)
    (case ws14_21 => k_is)
    (case wv14 => k_is)
    (case wg14 => k_is)
    (case wh14 => k_is)
    (case wa14 => k_is)
    (case wm14 => k_is)
    (case ws15_0 => k_is)
    (case ws15_1 => k_is)
    (case ws15_2 => k_is)
    (case ws15_3 => k_is)
    (case ws15_4 => k_is)
    (case ws15_5 => k_is)
    (case ws15_6 => k_is)
    (case ws15_7 => k_is)
    (case ws15_8 => k_is)
    (case ws15_9 => k_is)
    (case ws15_10 => k_is)
    (case ws15_11 => k_is)
    (case ws15_12 => k_is)
    (case ws15_13 => k_is)
    (case ws15_14 => k_is)
    (case ws15_15 => k_is)
    (case ws15_16 => k_is)
    (case ws15_17 => k_is)
    (case ws15_18 => k_is)
    (case ws15_19 => k_is)
    (case ws15_20 => k_is)
    (case ws15_21 => k_is)
    (case wv15 => k_is)
    (case wg15 => k_is)
    (case wh15 => k_is)
    (case wa15 => k_is)
    (case wm15 => k_is)
    (case ws16_0 => k_is)
    (case ws16_1 => k_is)
    (case ws16_2 => k_is)
    (case ws16_3 => k_is)
    (case ws16_4 => k_is)
    (case ws16_5 => k_is)
    (case ws16_6 => k_is)
    (case ws16_7 => k_is)
    (case ws16_8 => k_is)
    (case ws16_9 => k_is)
    (case ws16_10 => k_is)
    (case ws16_11 => k_is)
    (case ws16_12 => k_is)
    (case ws16_13 => k_is)
    (case ws16_14 => k_is)
    (case ws16_15 => k_is)
    (case ws16_16 => k_is)
    (case ws16_17 => k_is)
    (case ws16_18 => k_is)
    (case ws16_19 => k_is)
    (case ws16_20 => k_is)
    (case ws16_21 => k_is)
    (case wv16 => k_is)
    (case wg16 => k_is)
    (case wh16 => k_is)
    (case wa16 => k_is)
    (case wm16 => k_is)
    (case z0 => k_is)
    (case z1 => k_is)
    (case z2 => k_is)
    (case z3 => k_is)
    (case z4 => k_is)
    (case z5 => k_is)
    (case z6 => k_is)
    (case z7 => k_is)
    (case z8 => k_is)
    (case z9 => k_is)
    (case ga0 => k_is)
    (case ga1 => k_is)
    (case a0 => k_is)
    (case l0 => k_is)
    (case c0c => k_is)
    (case k0 => k_is)
    (case a1 => k_is)
    (case l1 => k_is)
    (case c1c => k_is)
    (case k1 => k_is)
    (case a2 => k_is)
    (case l2 => k_is)
    (case c2c => k_is)
    (case k2 => k_is)
    (case a3 => k_is)
    (case l3 => k_is)
    (case c3c => k_is)
    (case k3 => k_is)
    (case a4 => k_is)
    (case l4 => k_is)
    (case c4c => k_is)
    (case k4 => k_is)
    (case a5 => k_is)
    (case l5 => k_is)
    (case c5c => k_is)
    (case k5 => k_is)
    (case a6 => k_is)
    (case l6 => k_is)
    (case c6c => k_is)
    (case k6 => k_is)
    (case a7 => k_is)
    (case l7 => k_is)
    (case c7c => k_is)
    (case k7 => k_is)
    (case a8 => k_is)
    (case l8 => k_is)
    (case c8c => k_is)
    (case k8 => k_is)
    (case a9 => k_is)
    (case l9 => k_is)
    (case c9c => k_is)
    (case k9 => k_is)
    (case a10 => k_is)
    (case l10 => k_is)
    (case c10c => k_is)
    (case k10 => k_is)
    (case a11 => k_is)
    (case l11 => k_is)
    (case c11c => k_is)
    (case k11 => k_is)
    (case a12 => k_is)
    (case l12 => k_is)
    (case c12c => k_is)
    (case k12 => k_is)
    (case a13 => k_is)
    (case l13 => k_is)
    (case c13c => k_is)
    (case k13 => k_is)
    (case a14 => k_is)
    (case l14 => k_is)
    (case c14c => k_is)
    (case k14 => k_is)
    (case a15 => k_is)
    (case l15 => k_is)
    (case c15c => k_is)
    (case k15 => k_is)
    (case a16 => k_is)
    (case l16 => k_is)
    (case c16c => k_is)
    (case k16 => k_is)
    (case a17 => k_is)
    (case l17 => k_is)
    (case c17c => k_is)
    (case k17 => k_is)
    (case a18 => k_is)
    (case l18 => k_is)
    (case c18c => k_is)
    (case k18 => k_is)
    (case a19 => k_is)
    (case l19 => k_is)
    (case c19c => k_is)
    (case k19 => k_is)
    (case a20 => k_is)
    (case l20 => k_is)
    (case c20c => k_is)
    (case k20 => k_is)
    (case a21 => k_is)
    (case l21 => k_is)
    (case c21c => k_is)
    (case k21 => k_is)
    (case a22 => k_is)
    (case l22 => k_is)
    (case c22c => k_is)
    (case k22 => k_is)
    (case a23 => k_is)
    (case l23 => k_is)
    (case c23c => k_is)
    (case k23 => k_is)
    (case a24 => k_is)
    (case l24 => k_is)
    (case c24c => k_is)
    (case k24 => k_is)
#print axioms PySem.Challenge.cw_racerows_k10_rights_refused_holds
