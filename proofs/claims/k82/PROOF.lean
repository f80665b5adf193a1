import PyProof.Rows.All
import PySem.Challenge.RW_circusweek_k82_whole_even_steps_round_a
import HandS.ForMost
import HandS.TupAny
import HandS.TupMul
import HandS.Zip
import HandS.Conv
import HandS.DictTup
import HandS.Flow
import KE.DataEq
import KE.DataCmp
import KE.DataMinMax
import KE.SortData
import PyProof.SeqIndex
import HandS.Style
import HandS.Deep
import HandS.IsInst
import HandS.TupLen
import KE.KSortedM
import KE.GoesMore
import PyProof.EnumMake
import HandS.Lambda
import HandS.Nested
import PyProof.TupleOfSeq
import HandS.More
import KE.KDictDisplayH
import PyProof.Rows.Range3
import HandS.EndTab
import KE.KNestM
import HandS.Strs
import Wide.All
import OpenK.AllK
import Wide.FinOn
set_option autoImplicit true
set_option Elab.async false
set_option linter.all false
set_option maxRecDepth 100000
namespace Cw
open PySem PySem.Spec PyProof.Rows L2

abbrev D := PyData

/-! ### what a value stands for, in a heap of frozen objects -/
def keyD : Key → D
  | .inl i => .int i
  | .inr x => .str x
mutual
inductive Dn (F : Hp) : V → D → Prop
  | non : Dn F .non .none
  | bl (b : Bool) : Dn F (.bl b) (.bool b)
  | int (i : Int) : Dn F (.int i) (.int i)
  | str (x : Str) : Dn F (.str x) (.str x)
  | lst {a : Addr} {vs : List V} {ds : List D} : F a = some (.lst vs) → DnL F vs ds → Dn F (.ref a) (.list ds)
  | tup {a : Addr} {vs : List V} {ds : List D} : F a = some (.tup vs) → DnL F vs ds → Dn F (.ref a) (.tuple ds)
  | dK {a : Addr} {kvs : List (Key × V)} {ds : List (D × D)} : F a = some (.dK kvs) → DnK F kvs ds → Dn F (.ref a) (.dict ds)
  | dT {a : Addr} {kvs : List (List Key × V)} {ds : List (D × D)} : F a = some (.dT kvs) → DnT F kvs ds → Dn F (.ref a) (.dict ((.none, .none) :: ds))
inductive DnL (F : Hp) : List V → List D → Prop
  | nil : DnL F [] []
  | cons {v : V} {vs : List V} {d : D} {ds : List D} : Dn F v d → DnL F vs ds → DnL F (v :: vs) (d :: ds)
inductive DnK (F : Hp) : List (Key × V) → List (D × D) → Prop
  | nil : DnK F [] []
  | cons {k : Key} {v : V} {r : List (Key × V)} {d : D} {ds : List (D × D)} : Dn F v d → DnK F r ds → DnK F ((k, v) :: r) ((keyD k, d) :: ds)
inductive DnT (F : Hp) : List (List Key × V) → List (D × D) → Prop
  | nil : DnT F [] []
  | cons {k : List Key} {v : V} {r : List (List Key × V)} {d : D} {ds : List (D × D)} : Dn F v d → DnT F r ds → DnT F ((k, v) :: r) ((.tuple (k.map keyD), d) :: ds)
end

def Sub (F F' : Hp) : Prop := ∀ a o, F a = some o → F' a = some o
theorem Sub.refl (F : Hp) : Sub F F := fun _ _ h => h
theorem Sub.trans {F G H : Hp} (a : Sub F G) (b : Sub G H) : Sub F H := fun x o h => b x o (a x o h)

mutual
theorem Dn.mono {F F' : Hp} (s : Sub F F') : ∀ {v : V} {d : D}, Dn F v d → Dn F' v d
  | _, _, .non => .non
  | _, _, .bl b => .bl b
  | _, _, .int i => .int i
  | _, _, .str x => .str x
  | _, _, .lst h t => .lst (s _ _ h) (DnL.mono s t)
  | _, _, .tup h t => .tup (s _ _ h) (DnL.mono s t)
  | _, _, .dK h t => .dK (s _ _ h) (DnK.mono s t)
  | _, _, .dT h t => .dT (s _ _ h) (DnT.mono s t)
theorem DnL.mono {F F' : Hp} (s : Sub F F') : ∀ {v : List V} {d : List D}, DnL F v d → DnL F' v d
  | _, _, .nil => .nil
  | _, _, .cons h t => .cons (Dn.mono s h) (DnL.mono s t)
theorem DnK.mono {F F' : Hp} (s : Sub F F') : ∀ {v : List (Key × V)} {d : List (D × D)}, DnK F v d → DnK F' v d
  | _, _, .nil => .nil
  | _, _, .cons h t => .cons (Dn.mono s h) (DnK.mono s t)
theorem DnT.mono {F F' : Hp} (s : Sub F F') : ∀ {v : List (List Key × V)} {d : List (D × D)}, DnT F v d → DnT F' v d
  | _, _, .nil => .nil
  | _, _, .cons h t => .cons (Dn.mono s h) (DnT.mono s t)
end

theorem DnL.len {F : Hp} : ∀ {vs : List V} {ds : List D}, DnL F vs ds → vs.length = ds.length
  | _, _, .nil => rfl
  | _, _, .cons _ t => by simp [DnL.len t]
theorem DnL.get {F : Hp} : ∀ {vs : List V} {ds : List D} (i : Nat) {d : D}, DnL F vs ds → ds[i]? = some d → ∃ v, vs[i]? = some v ∧ Dn F v d
  | _, _, _, _, .nil, h => by simp at h
  | _, _, 0, _, .cons h _, e => by simp at e; subst e; exact ⟨_, rfl, h⟩
  | _, _, i + 1, _, .cons _ t, e => by
    obtain ⟨v, h1, h2⟩ := DnL.get i t (by simpa using e)
    exact ⟨v, by simpa using h1, h2⟩
theorem DnL.getV {F : Hp} : ∀ {vs : List V} {ds : List D} (i : Nat) {v : V}, DnL F vs ds → vs[i]? = some v → ∃ d, ds[i]? = some d ∧ Dn F v d
  | _, _, _, _, .nil, h => by simp at h
  | _, _, 0, _, .cons h _, e => by simp at e; subst e; exact ⟨_, rfl, h⟩
  | _, _, i + 1, _, .cons _ t, e => by
    obtain ⟨v, h1, h2⟩ := DnL.getV i t (by simpa using e)
    exact ⟨v, by simpa using h1, h2⟩
theorem DnL.append {F : Hp} : ∀ {vs us : List V} {ds es : List D}, DnL F vs ds → DnL F us es → DnL F (vs ++ us) (ds ++ es)
  | _, _, _, _, .nil, s => s
  | _, _, _, _, .cons h t, s => .cons h (DnL.append t s)
theorem DnL.one {F : Hp} {v : V} {d : D} (h : Dn F v d) : DnL F [v] [d] := .cons h .nil
theorem DnL.take {F : Hp} : ∀ {vs : List V} {ds : List D} (n : Nat), DnL F vs ds → DnL F (vs.take n) (ds.take n)
  | _, _, 0, _ => by simp; exact .nil
  | _, _, _ + 1, .nil => .nil
  | _, _, n + 1, .cons h t => .cons h (DnL.take n t)
theorem DnL.drop {F : Hp} : ∀ {vs : List V} {ds : List D} (n : Nat), DnL F vs ds → DnL F (vs.drop n) (ds.drop n)
  | _, _, 0, h => h
  | _, _, _ + 1, .nil => .nil
  | _, _, n + 1, .cons _ t => DnL.drop n t
theorem DnL.set {F : Hp} {v : V} {d : D} (h : Dn F v d) : ∀ {vs : List V} {ds : List D} (i : Nat), DnL F vs ds → DnL F (vs.set i v) (ds.set i d)
  | _, _, _, .nil => .nil
  | _, _, 0, .cons _ t => .cons h t
  | _, _, i + 1, .cons q t => .cons q (DnL.set h i t)
theorem DnL.eraseIdx {F : Hp} : ∀ {vs : List V} {ds : List D} (i : Nat), DnL F vs ds → DnL F (vs.eraseIdx i) (ds.eraseIdx i)
  | _, _, _, .nil => .nil
  | _, _, 0, .cons _ t => t
  | _, _, i + 1, .cons q t => .cons q (DnL.eraseIdx i t)
theorem DnL.dropLast {F : Hp} : ∀ {vs : List V} {ds : List D}, DnL F vs ds → DnL F vs.dropLast ds.dropLast
  | _, _, .nil => .nil
  | _, _, .cons _ .nil => .nil
  | _, _, .cons h (.cons g t) => .cons h (DnL.dropLast (.cons g t))
theorem DnL.rep {F : Hp} {vs : List V} {ds : List D} (h : DnL F vs ds) : ∀ k : Nat, DnL F (List.replicate k vs).flatten (List.replicate k ds).flatten
  | 0 => .nil
  | k + 1 => by simpa [List.replicate_succ] using h.append (DnL.rep h k)
theorem DnL.nil_iff {F : Hp} {vs : List V} {ds : List D} (h : DnL F vs ds) : vs = [] ↔ ds = [] := by
  cases h <;> simp

/-! ### outcomes -/
inductive Res (α : Type) where
  | ok (a : α)
  | exc (c : String)
  | stk
def Res.bind {α β : Type} (r : Res α) (f : α → Res β) : Res β := match r with
  | .ok a => f a
  | .exc c => .exc c
  | .stk => .stk
/-- with the state of what may be drawn -/
abbrev M (W α : Type) := W → Res (α × W)
def bindM {W α β : Type} (r : Res (α × W)) (f : α → W → Res (β × W)) : Res (β × W) := match r with
  | .ok (a, w) => f a w
  | .exc c => .exc c
  | .stk => .stk
def liftM {W α : Type} (r : Res α) (w : W) : Res (α × W) := match r with
  | .ok a => .ok (a, w)
  | .exc c => .exc c
  | .stk => .stk

/-- a locked thing, a tuple stay as they are -/
def IsFrz : HO → Prop
  | .frz _ _ => True
  | .tup _ => True
  | .ext _ => True
  | _ => False
/-! ### a thing beside the data: the objects at foot, changed by few defs alone -/
structure Rsc (W : Type) where
  foot : Addr → Prop
  self : V
  /-- values that are handed on, and of which nothing is read -/
  vals : Nat → V := fun _ => .non
  /-- data that was there before -/
  low : Hp := fun _ => none
  ok : W → Hp → Prop
  stable : ∀ {w : W} {H H' : Hp}, ok w H → (∀ b, foot b → H' b = H b) → (∀ b g, H b = some (.ext g) → H' b = some (.ext g)) → ok w H'
  there : ∀ {w : W} {H : Hp} {b : Addr}, ok w H → foot b → ∃ o, H b = some o ∧ ¬ IsFrz o
def R0 : Rsc Unit where
  foot _ := False
  self := .non
  ok _ _ := True
  stable _ _ _ := trivial
  there _ h := h.elim

/-- a dict may be locked while it is walked -/
def IsDic : HO → Prop
  | .dK _ => True
  | .dT _ => True
  | _ => False
def SubR (F H : Hp) : Prop := ∀ a o, F a = some o → H a = some o ∨ (IsDic o ∧ ∃ od, H a = some (.frz od o))
theorem SubR.some {F H : Hp} (s : SubR F H) {a : Addr} {o : HO} (h : F a = some o) : ∃ u, H a = some u := by
  rcases s a o h with h | ⟨_, _, h⟩ <;> exact ⟨_, h⟩
structure Wok {W : Type} (R : Rsc W) (F H : Hp) (w : W) : Prop where
  sub : SubR F H
  nf : ∀ {a}, R.foot a → F a = none
  res : R.ok w H
  low : Sub R.low F
structure Ext {W : Type} (R : Rsc W) (F H F' H' : Hp) : Prop where
  mono : Sub F F'
  keep : ∀ {a o}, ¬ R.foot a → F a = none ∨ IsFrz o → H a = some o → H' a = some o
  fresh : ∀ {a o}, ¬ R.foot a → ¬ IsFrz o → H a = some o → F a = none → F' a = none
section
variable {W : Type} {R : Rsc W} {F H F1 H1 F2 H2 : Hp} {w w1 : W}
theorem Ext.refl : Ext R F H F H := ⟨Sub.refl F, fun _ _ h => h, fun _ _ _ h => h⟩
theorem Ext.trans (a : Ext R F H F1 H1) (b : Ext R F1 H1 F2 H2) : Ext R F H F2 H2 :=
  ⟨a.mono.trans b.mono, fun {c o} n q h => b.keep n (by
      by_cases z : IsFrz o
      · exact .inr z
      · exact q.imp (fun q => a.fresh n z h q) (fun q => q)) (a.keep n q h), fun n z h h' => b.fresh n z (a.keep n (.inl h') h) (a.fresh n z h h')⟩
/-- a new frozen object -/
theorem Ext.new {p : Addr} {o : HO} (k : Wok R F H w) (n : H p = none) : Ext R F H (upd F p o) (upd H p o) := by
  have nF : F p = none := by
    cases q : F p with
    | none => rfl
    | some u => obtain ⟨z, e⟩ := k.sub.some q; rw [e] at n; cases n
  refine ⟨fun a u h => ?_, fun _ _ h => ?_, fun {a u} _ _ h h' => ?_⟩
  · rw [upd_ne (ne_of_none h nF)]; exact h
  · rw [upd_ne (ne_of_none h n)]; exact h
  · rw [upd_ne (ne_of_none h n)]; exact h'
theorem Wok.new {p : Addr} {o : HO} (k : Wok R F H w) (n : H p = none) : Wok R (upd F p o) (upd H p o) w := by
  have k0 : F p = none := by
    cases q : F p with
    | none => rfl
    | some u => obtain ⟨z, e⟩ := k.sub.some q; rw [e] at n; cases n
  have np : ∀ a, R.foot a → a ≠ p := fun a fa e => by
    obtain ⟨u, hu, _⟩ := k.res |> fun r => R.there r fa
    rw [e, n] at hu; cases hu
  refine ⟨fun a u h => ?_, fun {a} fa => ?_, R.stable k.res (fun b fb => ?_) fun b g h => by rw [upd_ne (ne_of_none h n)]; exact h, fun a u h => by rw [upd_ne (ne_of_none (k.low a u h) k0)]; exact k.low a u h⟩
  · by_cases e : a = p
    · subst e; rw [upd_same] at h ⊢; exact .inl h
    · rw [upd_ne e] at h ⊢; exact k.sub _ _ h
  · rw [upd_ne (np a fa)]; exact k.nf fa
  · rw [upd_ne (np b fb)]
/-- a new object that is not frozen -/
theorem Ext.newO {p : Addr} {o : HO} (n : H p = none) : Ext R F H F (upd H p o) :=
  ⟨Sub.refl F, fun _ _ h => by rw [upd_ne (ne_of_none h n)]; exact h, fun _ _ _ h => h⟩
theorem Wok.newO {p : Addr} {o : HO} (k : Wok R F H w) (n : H p = none) : Wok R F (upd H p o) w := by
  have np : ∀ a, R.foot a → a ≠ p := fun a fa e => by
    obtain ⟨u, hu, _⟩ := k.res |> fun r => R.there r fa
    rw [e, n] at hu; cases hu
  refine ⟨fun a u h => ?_, fun fa => k.nf fa, R.stable k.res (fun b fb => ?_) fun b g h => by rw [upd_ne (ne_of_none h n)]; exact h, k.low⟩
  · obtain ⟨z, e⟩ := k.sub.some h
    rw [upd_ne (ne_of_none e n)]; exact k.sub _ _ h
  · rw [upd_ne (np b fb)]
theorem Wok.notfoot {p : Addr} (k : Wok R F H w) (n : H p = none) : ¬ R.foot p := fun f => by
  obtain ⟨o, e, _⟩ := R.there k.res f
  rw [n] at e; cases e
theorem Wok.Fnone {p : Addr} (k : Wok R F H w) (n : H p = none) : F p = none := by
  cases q : F p with
  | none => rfl
  | some u => obtain ⟨z, e⟩ := k.sub.some q; rw [e] at n; cases n
/-- an object that is not frozen becomes frozen -/
theorem Ext.freeze {p : Addr} {o : HO} (e : Ext R F H F1 H1) (hp : H1 p = some o) (hn : H p = none) (hF : F1 p = none) : Ext R F H (upd F1 p o) H1 := by
  refine ⟨fun a u h => ?_, fun n q h => e.keep n q h, fun {a u} n z h h' => ?_⟩
  · have h1 := e.mono _ _ h
    rw [upd_ne (ne_of_none h1 hF)]; exact h1
  · rw [upd_ne (ne_of_none h hn)]; exact e.fresh n z h h'
theorem Wok.freeze {p : Addr} {o : HO} (k : Wok R F H w) (hp : H p = some o) (nf : ¬ R.foot p) (k0 : F p = none) : Wok R (upd F p o) H w := by
  refine ⟨fun a u h => ?_, fun {a} fa => ?_, k.res, fun a u h => by rw [upd_ne (ne_of_none (k.low a u h) k0)]; exact k.low a u h⟩
  · by_cases e : a = p
    · subst e; rw [upd_same] at h; rw [← h]; exact .inl hp
    · rw [upd_ne e] at h; exact k.sub _ _ h
  · rw [upd_ne (show a ≠ p from fun e => nf (by rw [← e]; exact fa))]; exact k.nf fa
/-- of the callee, who knows of no such thing -/
theorem Ext.of0 (e : Ext R0 F H F1 H1) : Ext R F H F1 H1 := ⟨e.mono, fun _ q h => e.keep (fun x => x) q h, fun _ z h h' => e.fresh (fun x => x) z h h'⟩
theorem Wok.to0 (k : Wok R F H w) : Wok R0 F H () := ⟨k.sub, fun h => h.elim, trivial, fun a u h => by cases h⟩
/-- what else is known of an object stays -/
theorem Ext.ext {b : Addr} {g : Heap → Prop} (k : Wok R F H w) (e : Ext R F H F1 H1) (k1 : Wok R F1 H1 w1) (n : ¬ R.foot b) (h : H b = some (.ext g)) : H1 b = some (.ext g) := by
  cases q : F b with
  | none => exact e.keep n (.inl q) h
  | some u =>
    have hu : u = .ext g := by
      rcases k.sub b u q with z | ⟨_, _, z⟩
      · rw [h] at z; exact (Option.some.inj z).symm
      · rw [h] at z; cases z
    subst hu
    rcases k1.sub b _ (e.mono _ _ q) with z | ⟨z, _⟩
    · exact z
    · exact z.elim
theorem Wok.of0 (k : Wok R F H w) (e : Ext R0 F H F1 H1) (k1 : Wok R0 F1 H1 ()) : Wok R F1 H1 w := by
  refine ⟨k1.sub, fun {a} fa => ?_, R.stable k.res (fun b fb => ?_) fun b g h => Ext.ext (R := R0) (w := ()) ⟨k.sub, fun h => h.elim, trivial, fun a u h => by cases h⟩ e k1 (fun z => z) h, fun a u h => e.mono a u (k.low a u h)⟩
  · obtain ⟨o, h, no⟩ := R.there k.res fa
    exact e.fresh (fun x => x) no h (k.nf fa)
  · obtain ⟨o, h, _⟩ := R.there k.res fb
    rw [h]; exact e.keep (fun x => x) (.inl (k.nf fb)) h
end

/-- P holds behind r, wherever the heap has gone -/
def Post {W α : Type} (R : Rsc W) (F H : Hp) (X : String → Prop) (r : Res (α × W)) (P : α → Hp → Hp → Prop) : Prop := match r with
  | .ok (a, w') => ∀ F' H', Ext R F H F' H' → Wok R F' H' w' → P a F' H'
  | .exc c => X c
  | .stk => False
theorem Post.bind {W α β : Type} {R : Rsc W} {F H : Hp} {X : String → Prop} {r : Res (α × W)} {g : α → W → Res (β × W)} {P : β → Hp → Hp → Prop} {P' : α → Hp → Hp → Prop}
    (h : Post R F H X (bindM r g) P) (k : ∀ a w1 F1 H1, Ext R F H F1 H1 → Wok R F1 H1 w1 → Post R F1 H1 X (g a w1) P → P' a F1 H1) : Post R F H X r P' := by
  match r, h with
  | .ok (a, w1), h =>
    intro F1 H1 e o
    refine k a w1 F1 H1 e o ?_
    have h' : Post R F H X (g a w1) P := h
    revert h'
    generalize g a w1 = z
    match z with
    | .ok (b, w2) => exact fun h' F2 H2 e2 o2 => h' F2 H2 (e.trans e2) o2
    | .exc c => exact fun h' => h'
    | .stk => exact fun h' => h'
  | .exc c, h => exact h
  | .stk, h => exact h
theorem Post.imp {W α : Type} {R : Rsc W} {F H : Hp} {X : String → Prop} {r : Res (α × W)} {P P' : α → Hp → Hp → Prop} (h : Post R F H X r P)
    (k : ∀ a w' F' H', r = .ok (a, w') → Ext R F H F' H' → Wok R F' H' w' → P a F' H' → P' a F' H') : Post R F H X r P' := by
  match r, h with
  | .ok (a, w1), h => exact fun F' H' e o => k a w1 F' H' rfl e o (h F' H' e o)
  | .exc c, h => exact h
  | .stk, h => exact h
/-- nothing was drawn -/
theorem Post.lift {W α : Type} {R : Rsc W} {F H : Hp} {w : W} {X : String → Prop} {a : α} {P : α → Hp → Hp → Prop} (h : Post R F H X (liftM (.ok a) w) P) : ∀ F' H', Ext R F H F' H' → Wok R F' H' w → P a F' H' := h

/-! ### the slots of a def -/
inductive Slot where
  | un
  | fr (d : D)
  | ow (d : D)
  | hd
  /-- a value of which nothing is read: a def handed in -/
  | vl (n : Nat)
  /-- a tuple of which all is known -/
  | tx (d : D)
abbrev EnvD := List Slot
structure Bs where
  F : Hp
  H : Hp
  X : String → Prop

/-- a tuple of which all is known -/
def ExT (F : Hp) (v : V) (d : D) : Prop := ∃ a od vs ds, v = .ref a ∧ F a = some (.frz od (.tup vs)) ∧ od.dict = .none ∧ DnL F vs ds ∧ d = .tuple ds
theorem ExT.mono {F F' : Hp} (s : Sub F F') {v : V} {d : D} : ExT F v d → ExT F' v d
  | ⟨a, od, vs, ds, h1, h2, h3, h4, h5⟩ => ⟨a, od, vs, ds, h1, s _ _ h2, h3, h4.mono s, h5⟩
/-- an object of one's own: it may be changed -/
inductive OwO (F : Hp) : D → HO → Prop
  | lst {vs : List V} {ds : List D} : DnL F vs ds → OwO F (.list ds) (.lst vs)
  | dK {kvs : List (Key × V)} {ds : List (D × D)} : DnK F kvs ds → OwO F (.dict ds) (.dK kvs)
  | dT {kvs : List (List Key × V)} {ds : List (D × D)} : DnT F kvs ds → OwO F (.dict ((.none, .none) :: ds)) (.dT kvs)
theorem OwO.mono {F F' : Hp} (s : Sub F F') {d : D} {o : HO} : OwO F d o → OwO F' d o
  | .lst h => .lst (h.mono s)
  | .dK h => .dK (h.mono s)
  | .dT h => .dT (h.mono s)
theorem OwO.nofix {F : Hp} {d : D} {o : HO} (h : OwO F d o) : ¬ IsFrz o := by cases h <;> exact fun z => z
theorem OwO.dn {F : Hp} {d : D} {o : HO} {p : Addr} (h : OwO F d o) (s : Sub F F') (e : F' p = some o) : Dn F' (.ref p) d := by
  cases h with
  | lst h => exact .lst e (h.mono s)
  | dK h => exact .dK e (h.mono s)
  | dT h => exact .dT e (h.mono s)

def isOw : Option Slot → Bool
  | some (.ow _) => true
  | _ => false
structure StOk {W : Type} (R : Rsc W) (B : Bs) (η : EnvD) (w : W) (σ : L2.St) (F H : Hp) : Prop where
  wok : Wok R F H w
  ext : Ext R B.F B.H F H
  len : η.length = σ.length
  fr : ∀ {i : Nat} {d : D}, η[i]? = some (Slot.fr d) → ∃ v, σ[i]? = some (some v) ∧ Dn F v d
  ow : ∀ {i : Nat} {d : D}, η[i]? = some (Slot.ow d) → ∃ p o, σ[i]? = some (some (V.ref p)) ∧ H p = some o ∧ OwO F d o ∧ F p = none ∧ B.H p = none ∧ ¬ R.foot p
  hd : ∀ {i : Nat}, η[i]? = some Slot.hd → σ[i]? = some (some R.self)
  vl : ∀ {i n : Nat}, η[i]? = some (Slot.vl n) → σ[i]? = some (some (R.vals n))
  inj : ∀ {i j : Nat} {d e : D} {p : Addr}, η[i]? = some (Slot.ow d) → η[j]? = some (Slot.ow e) → σ[i]? = some (some (V.ref p)) → σ[j]? = some (some (V.ref p)) → i = j
  tx : ∀ {i : Nat} {d : D}, η[i]? = some (Slot.tx d) → ∃ v, σ[i]? = some (some v) ∧ ExT F v d
section
variable {W : Type} {R : Rsc W} {B : Bs} {η : EnvD} {w w1 : W} {σ : L2.St} {F H F1 H1 : Hp}
theorem StOk.go (S : StOk R B η w σ F H) (e : Ext R F H F1 H1) (k : Wok R F1 H1 w1) : StOk R B η w1 σ F1 H1 where
  wok := k
  ext := S.ext.trans e
  len := S.len
  fr := fun h => by
    obtain ⟨v, h1, h2⟩ := S.fr h
    exact ⟨v, h1, h2.mono e.mono⟩
  ow := fun h => by
    obtain ⟨p, o, h1, h2, h3, h4, h5, h6⟩ := S.ow h
    exact ⟨p, o, h1, e.keep h6 (.inl h4) h2, h3.mono e.mono, e.fresh h6 h3.nofix h2 h4, h5, h6⟩
  hd := S.hd
  vl := S.vl
  inj := S.inj
  tx := fun h => by
    obtain ⟨v, h1, h2⟩ := S.tx h
    exact ⟨v, h1, h2.mono e.mono⟩
theorem get_set {α : Type} {l : List α} {i j : Nat} {a b : α} (h : (l.set i a)[j]? = some b) : (i = j ∧ a = b ∧ i < l.length) ∨ (i ≠ j ∧ l[j]? = some b) := by
  by_cases e : i = j
  · subst e
    by_cases hl : i < l.length
    · rw [List.getElem?_set_self hl] at h
      exact .inl ⟨rfl, Option.some.inj h, hl⟩
    · rw [List.getElem?_eq_none (by simpa using hl)] at h; cases h
  · rw [List.getElem?_set_ne e] at h
    exact .inr ⟨e, h⟩
/-- a slot that holds a frozen value -/
theorem StOk.setFr (S : StOk R B η w σ F H) (i : Nat) {v : V} {d : D} (h : Dn F v d) : StOk R B (η.set i (Slot.fr d)) w (σ.set i (some v)) F H where
  wok := S.wok
  ext := S.ext
  len := by simp [S.len]
  fr := fun {j d'} q => by
    rcases get_set q with ⟨rfl, e, hl⟩ | ⟨e, q⟩
    · cases e
      exact ⟨v, List.getElem?_set_self (by rw [← S.len]; exact hl), h⟩
    · rw [List.getElem?_set_ne e]; exact S.fr q
  ow := fun {j d'} q => by
    rcases get_set q with ⟨rfl, e, hl⟩ | ⟨e, q⟩
    · cases e
    · rw [List.getElem?_set_ne e]; exact S.ow q
  hd := fun {j} q => by
    rcases get_set q with ⟨rfl, e, hl⟩ | ⟨e, q⟩
    · cases e
    · rw [List.getElem?_set_ne e]; exact S.hd q
  vl := fun {j u} q => by
    rcases get_set q with ⟨rfl, e, hl⟩ | ⟨e, q⟩
    · cases e
    · rw [List.getElem?_set_ne e]; exact S.vl q
  inj := fun {j k d' e' p} q q' r r' => by
    rcases get_set q with ⟨rfl, e, hl⟩ | ⟨e, q⟩
    · cases e
    rcases get_set q' with ⟨rfl, e1, hl⟩ | ⟨e1, q'⟩
    · cases e1
    rw [List.getElem?_set_ne e] at r
    rw [List.getElem?_set_ne e1] at r'
    exact S.inj q q' r r'
  tx := fun {j d'} q => by
    rcases get_set q with ⟨rfl, e, hl⟩ | ⟨e, q⟩
    · cases e
    · rw [List.getElem?_set_ne e]; exact S.tx q
/-- a slot that holds an object of one's own -/
theorem StOk.setOw (S : StOk R B η w σ F H) (i : Nat) {p : Addr} {o : HO} {d : D} (h : H p = some o) (ho : OwO F d o) (hF : F p = none) (hB : B.H p = none) (hf : ¬ R.foot p)
    (hd : ∀ {j : Nat} {e : D}, η[j]? = some (Slot.ow e) → σ[j]? ≠ some (some (V.ref p))) : StOk R B (η.set i (Slot.ow d)) w (σ.set i (some (V.ref p))) F H where
  wok := S.wok
  ext := S.ext
  len := by simp [S.len]
  fr := fun {j d'} q => by
    rcases get_set q with ⟨rfl, e, hl⟩ | ⟨e, q⟩
    · cases e
    · rw [List.getElem?_set_ne e]; exact S.fr q
  ow := fun {j d'} q => by
    rcases get_set q with ⟨rfl, e, hl⟩ | ⟨e, q⟩
    · cases e
      exact ⟨p, o, List.getElem?_set_self (by rw [← S.len]; exact hl), h, ho, hF, hB, hf⟩
    · rw [List.getElem?_set_ne e]; exact S.ow q
  hd := fun {j} q => by
    rcases get_set q with ⟨rfl, e, hl⟩ | ⟨e, q⟩
    · cases e
    · rw [List.getElem?_set_ne e]; exact S.hd q
  vl := fun {j u} q => by
    rcases get_set q with ⟨rfl, e, hl⟩ | ⟨e, q⟩
    · cases e
    · rw [List.getElem?_set_ne e]; exact S.vl q
  inj := fun {j k d' e' p'} q q' r r' => by
    rcases get_set q with ⟨rfl, e, hl⟩ | ⟨e, q⟩
    · rcases get_set q' with ⟨rfl, e1, hl1⟩ | ⟨e1, q'⟩
      · rfl
      · rw [List.getElem?_set_self (by rw [← S.len]; exact hl)] at r
        rw [List.getElem?_set_ne e1] at r'
        cases r
        exact absurd r' (hd q')
    · rcases get_set q' with ⟨rfl, e1, hl1⟩ | ⟨e1, q'⟩
      · rw [List.getElem?_set_self (by rw [← S.len]; exact hl1)] at r'
        rw [List.getElem?_set_ne e] at r
        cases r'
        exact absurd r (hd q)
      · rw [List.getElem?_set_ne e] at r
        rw [List.getElem?_set_ne e1] at r'
        exact S.inj q q' r r'
  tx := fun {j d'} q => by
    rcases get_set q with ⟨rfl, e, hl⟩ | ⟨e, q⟩
    · cases e
    · rw [List.getElem?_set_ne e]; exact S.tx q
/-- the object of a slot is changed -/
theorem StOk.write (S : StOk R B η w σ F H) {i : Nat} {p : Addr} {o' : HO} {d d' : D} (hi : η[i]? = some (Slot.ow d)) (hs : σ[i]? = some (some (V.ref p))) (ho : OwO F d' o') :
    StOk R B (η.set i (Slot.ow d')) w σ F (upd H p o') := by
  obtain ⟨p', o1, h1, h2, h3, h4, h5, h6⟩ := S.ow hi
  have ep : p' = p := by rw [hs] at h1; cases h1; rfl
  subst ep
  have hk : ∀ a, F a ≠ none → a ≠ p' := fun a n e => by subst e; exact n h4
  refine ⟨⟨fun a u h => ?_, S.wok.nf, R.stable S.wok.res (fun b fb => upd_ne fun e => h6 (e ▸ fb)) fun b g h => by rw [upd_ne (fun e => by subst e; rw [h2] at h; cases h; cases h3)]; exact h, S.wok.low⟩, ⟨S.ext.mono, fun {a u} n q h => ?_, S.ext.fresh⟩, by simp [S.len], fun {j e} q => ?_, fun {j e} q => ?_, fun {j} q => ?_, fun {j u} q => ?_, fun {j k e e' p2} q q' r r' => ?_, fun {j e} q => ?_⟩
  · rw [upd_ne (hk a (by rw [h]; simp))]; exact S.wok.sub _ _ h
  · rw [upd_ne (ne_of_none h h5)]; exact S.ext.keep n q h
  · rcases get_set q with ⟨rfl, e, hl⟩ | ⟨_, q⟩
    · cases e
    · exact S.fr q
  · rcases get_set q with ⟨rfl, e, hl⟩ | ⟨e1, q⟩
    · cases e
      exact ⟨p', o', h1, upd_same, ho, h4, h5, h6⟩
    · obtain ⟨p2, o2, g1, g2, g3⟩ := S.ow q
      have hne : p2 ≠ p' := fun z => e1 (by subst z; exact S.inj hi q h1 g1)
      exact ⟨p2, o2, g1, by rw [upd_ne hne]; exact g2, g3⟩
  · rcases get_set q with ⟨rfl, e, hl⟩ | ⟨_, q⟩
    · cases e
    · exact S.hd q
  · rcases get_set q with ⟨rfl, e, hl⟩ | ⟨_, q⟩
    · cases e
    · exact S.vl q
  · have f : ∀ {j : Nat} {e : D}, (η.set i (Slot.ow d'))[j]? = some (Slot.ow e) → ∃ e2, η[j]? = some (Slot.ow e2) := fun {j e} q => by
      rcases get_set q with ⟨rfl, _, _⟩ | ⟨_, q⟩
      · exact ⟨_, hi⟩
      · exact ⟨_, q⟩
    obtain ⟨_, q⟩ := f q
    obtain ⟨_, q'⟩ := f q'
    exact S.inj q q' r r'
  · rcases get_set q with ⟨rfl, e, hl⟩ | ⟨_, q⟩
    · cases e
    · exact S.tx q
/-- a slot's object becomes frozen -/
theorem StOk.freeze (S : StOk R B η w σ F H) {i : Nat} {d : D} (hi : η[i]? = some (Slot.ow d)) : ∃ F', StOk R B (η.set i (Slot.fr d)) w σ F' H := by
  obtain ⟨p, o, h1, h2, h3, h4, h5, h6⟩ := S.ow hi
  have sb : Sub F (upd F p o) := fun a u h => by rw [upd_ne (ne_of_none h h4)]; exact h
  refine ⟨upd F p o, S.wok.freeze h2 h6 h4, ⟨S.ext.mono.trans sb, S.ext.keep, fun {a u} n z h h' => ?_⟩, by simp [S.len], fun {j e} q => ?_, fun {j e} q => ?_, fun {j} q => ?_, fun {j u} q => ?_, fun {j k e e' p2} q q' r r' => ?_, fun {j e} q => ?_⟩
  · rw [upd_ne (ne_of_none h h5)]; exact S.ext.fresh n z h h'
  · rcases get_set q with ⟨rfl, e, hl⟩ | ⟨_, q⟩
    · cases e
      exact ⟨_, h1, h3.dn sb upd_same⟩
    · obtain ⟨v, g1, g2⟩ := S.fr q
      exact ⟨v, g1, g2.mono sb⟩
  · rcases get_set q with ⟨rfl, e, hl⟩ | ⟨e1, q⟩
    · cases e
    · obtain ⟨p2, o2, g1, g2, g3, g4, g5⟩ := S.ow q
      have hne : p2 ≠ p := fun z => e1 (by subst z; exact S.inj hi q h1 g1)
      exact ⟨p2, o2, g1, g2, g3.mono sb, by rw [upd_ne hne]; exact g4, g5⟩
  · rcases get_set q with ⟨rfl, e, hl⟩ | ⟨_, q⟩
    · cases e
    · exact S.hd q
  · rcases get_set q with ⟨rfl, e, hl⟩ | ⟨_, q⟩
    · cases e
    · exact S.vl q
  · rcases get_set q with ⟨rfl, e, hl⟩ | ⟨_, q⟩
    · cases e
    rcases get_set q' with ⟨rfl, e, hl⟩ | ⟨_, q'⟩
    · cases e
    exact S.inj q q' r r'
  · rcases get_set q with ⟨rfl, e, hl⟩ | ⟨_, q⟩
    · cases e
    · obtain ⟨v, g1, g2⟩ := S.tx q
      exact ⟨v, g1, g2.mono sb⟩
/-- forgetting a slot -/
theorem StOk.forget (S : StOk R B η w σ F H) (i : Nat) (x : Option V) : StOk R B (η.set i Slot.un) w (σ.set i x) F H where
  wok := S.wok
  ext := S.ext
  len := by simp [S.len]
  fr := fun {j d'} q => by
    rcases get_set q with ⟨rfl, e, hl⟩ | ⟨e, q⟩
    · cases e
    · rw [List.getElem?_set_ne e]; exact S.fr q
  ow := fun {j d'} q => by
    rcases get_set q with ⟨rfl, e, hl⟩ | ⟨e, q⟩
    · cases e
    · rw [List.getElem?_set_ne e]; exact S.ow q
  hd := fun {j} q => by
    rcases get_set q with ⟨rfl, e, hl⟩ | ⟨e, q⟩
    · cases e
    · rw [List.getElem?_set_ne e]; exact S.hd q
  vl := fun {j u} q => by
    rcases get_set q with ⟨rfl, e, hl⟩ | ⟨e, q⟩
    · cases e
    · rw [List.getElem?_set_ne e]; exact S.vl q
  inj := fun {j k d' e' p} q q' r r' => by
    rcases get_set q with ⟨rfl, e, hl⟩ | ⟨e, q⟩
    · cases e
    rcases get_set q' with ⟨rfl, e1, hl⟩ | ⟨e1, q'⟩
    · cases e1
    rw [List.getElem?_set_ne e] at r
    rw [List.getElem?_set_ne e1] at r'
    exact S.inj q q' r r'
  tx := fun {j d'} q => by
    rcases get_set q with ⟨rfl, e, hl⟩ | ⟨e, q⟩
    · cases e
    · rw [List.getElem?_set_ne e]; exact S.tx q
/-- a slot that holds a tuple of which all is known -/
theorem StOk.setTx (S : StOk R B η w σ F H) (i : Nat) {v : V} {d : D} (h : ExT F v d) : StOk R B (η.set i (Slot.tx d)) w (σ.set i (some v)) F H where
  wok := S.wok
  ext := S.ext
  len := by simp [S.len]
  fr := fun {j d'} q => by
    rcases get_set q with ⟨rfl, e, hl⟩ | ⟨e, q⟩
    · cases e
    · rw [List.getElem?_set_ne e]; exact S.fr q
  ow := fun {j d'} q => by
    rcases get_set q with ⟨rfl, e, hl⟩ | ⟨e, q⟩
    · cases e
    · rw [List.getElem?_set_ne e]; exact S.ow q
  hd := fun {j} q => by
    rcases get_set q with ⟨rfl, e, hl⟩ | ⟨e, q⟩
    · cases e
    · rw [List.getElem?_set_ne e]; exact S.hd q
  vl := fun {j u} q => by
    rcases get_set q with ⟨rfl, e, hl⟩ | ⟨e, q⟩
    · cases e
    · rw [List.getElem?_set_ne e]; exact S.vl q
  inj := fun {j k d' e' p} q q' r r' => by
    rcases get_set q with ⟨rfl, e, hl⟩ | ⟨e, q⟩
    · cases e
    rcases get_set q' with ⟨rfl, e1, hl⟩ | ⟨e1, q'⟩
    · cases e1
    rw [List.getElem?_set_ne e] at r
    rw [List.getElem?_set_ne e1] at r'
    exact S.inj q q' r r'
  tx := fun {j d'} q => by
    rcases get_set q with ⟨rfl, e, hl⟩ | ⟨e, q⟩
    · cases e
      exact ⟨v, List.getElem?_set_self (by rw [← S.len]; exact hl), h⟩
    · rw [List.getElem?_set_ne e]; exact S.tx q
end
end Cw

set_option autoImplicit true
namespace Cw
open PySem PySem.Spec PyProof.Rows L2

/-! ### judgements: a rule of the hand layer, with the data function that it refines -/
abbrev FE (W : Type) := EnvD → W → Res (D × W)
abbrev FT (W : Type) := EnvD → W → Res (Bool × W)
abbrev FA (W : Type) := EnvD → W → Res (List D × W)
inductive Out where
  | nx (η : EnvD)
  | rt (d : D)
  | bk (η : EnvD)
  | ct (η : EnvD)
abbrev FS (W : Type) := EnvD → W → Res (Out × W)

section
variable {W : Type}
/-- a value that may be read: frozen, or an object of a slot -/
inductive Sq (R : Rsc W) (F H : Hp) : V → D → Prop
  | fr {v : V} {d : D} : Dn F v d → Sq R F H v d
  | ow {p : Addr} {o : HO} {d : D} : H p = some o → OwO F d o → ¬ R.foot p ∧ F p = none → Sq R F H (.ref p) d
inductive SqAll (R : Rsc W) (F H : Hp) : List V → List D → Prop
  | nil : SqAll R F H [] []
  | cons {v : V} {vs : List V} {d : D} {ds : List D} : Sq R F H v d → SqAll R F H vs ds → SqAll R F H (v :: vs) (d :: ds)
variable {R : Rsc W} {F H F1 H1 : Hp} {w w1 : W} {X : Cx}
theorem Sq.go {v : V} {d : D} (h : Sq R F H v d) (e : Ext R F H F1 H1) : Sq R F1 H1 v d := by
  cases h with
  | fr h => exact .fr (h.mono e.mono)
  | ow h o n => exact .ow (e.keep n.1 (.inl n.2) h) (o.mono e.mono) ⟨n.1, e.fresh n.1 o.nofix h n.2⟩
theorem SqAll.go {v : List V} {d : List D} (h : SqAll R F H v d) (e : Ext R F H F1 H1) : SqAll R F1 H1 v d := by
  induction h with
  | nil => exact .nil
  | cons h _ ih => exact .cons (h.go e) ih
theorem Sq.int {v : V} {i : Int} (h : Sq R F H v (.int i)) : v = .int i := by
  cases h with
  | fr h => cases h; rfl
  | ow _ o => cases o
theorem Sq.bool {v : V} {i : Bool} (h : Sq R F H v (.bool i)) : v = .bl i := by
  cases h with
  | fr h => cases h; rfl
  | ow _ o => cases o
theorem Sq.str {v : V} {i : Str} (h : Sq R F H v (.str i)) : v = .str i := by
  cases h with
  | fr h => cases h; rfl
  | ow _ o => cases o
theorem Sq.non {v : V} (h : Sq R F H v .none) : v = .non := by
  cases h with
  | fr h => cases h; rfl
  | ow _ o => cases o
theorem Wok.at {p : Addr} {o : HO} (k : Wok R F H w) (h : F p = some o) (n : ¬ IsDic o) : H p = some o := by
  rcases k.sub _ _ h with h | ⟨z, _⟩
  · exact h
  · exact absurd z n
theorem Sq.lst {v : V} {ds : List D} (k : Wok R F H w) (h : Sq R F H v (.list ds)) : ∃ p vs, v = .ref p ∧ H p = some (.lst vs) ∧ DnL F vs ds := by
  cases h with
  | fr h => cases h with
    | lst e h => exact ⟨_, _, rfl, k.at e id, h⟩
  | ow e o n => cases o with
    | lst h => exact ⟨_, _, rfl, e, h⟩
theorem Sq.tup {v : V} {ds : List D} (k : Wok R F H w) (h : Sq R F H v (.tuple ds)) : ∃ p vs, v = .ref p ∧ F p = some (.tup vs) ∧ H p = some (.tup vs) ∧ DnL F vs ds := by
  cases h with
  | fr h => cases h with
    | tup e h => exact ⟨_, _, rfl, e, k.at e id, h⟩
  | ow e o n => cases o

def PV (Q : VK) : D → Hp → Hp → Prop := fun d F' H' => ∀ v, Dn F' v d → Q v H'
def PQ (R : Rsc W) (Q : VK) : D → Hp → Hp → Prop := fun d F' H' => ∀ v, Sq R F' H' v d → Q v H'
def PN (H : Hp) (Q : VK) : D → Hp → Hp → Prop := fun d F' H' => ∀ p o, H p = none → H' p = some o → OwO F' d o → F' p = none → Q (.ref p) H'
def RefE (R : Rsc W) (t : TE) (f : FE W) : Prop := ∀ (B : Bs) (η : EnvD) (w : W) (σ : L2.St) (F H : Hp), StOk R B η w σ F H → ∀ Q : VK, Post R F H B.X (f η w) (PV Q) → t σ H Q
def RefQ (R : Rsc W) (t : TE) (f : FE W) : Prop := ∀ (B : Bs) (η : EnvD) (w : W) (σ : L2.St) (F H : Hp), StOk R B η w σ F H → ∀ Q : VK, Post R F H B.X (f η w) (PQ R Q) → t σ H Q
def RefN (R : Rsc W) (t : TE) (f : FE W) : Prop := ∀ (B : Bs) (η : EnvD) (w : W) (σ : L2.St) (F H : Hp), StOk R B η w σ F H → ∀ Q : VK, Post R F H B.X (f η w) (PN H Q) → t σ H Q
def RefT (R : Rsc W) (t : TT) (f : FT W) : Prop := ∀ (B : Bs) (η : EnvD) (w : W) (σ : L2.St) (F H : Hp), StOk R B η w σ F H → ∀ Q : Bool → Hp → Prop, Post R F H B.X (f η w) (fun b _ H' => Q b H') → t σ H Q
def RefA (R : Rsc W) (t : TA) (f : FA W) : Prop := ∀ (B : Bs) (η : EnvD) (w : W) (σ : L2.St) (F H : Hp), StOk R B η w σ F H → ∀ Q : List V → Hp → Prop, Post R F H B.X (f η w) (fun ds F' H' => ∀ vs, DnL F' vs ds → Q vs H') → t σ H Q
def RefB (R : Rsc W) (t : TA) (f : FA W) : Prop := ∀ (B : Bs) (η : EnvD) (w : W) (σ : L2.St) (F H : Hp), StOk R B η w σ F H → ∀ Q : List V → Hp → Prop, Post R F H B.X (f η w) (fun ds F' H' => ∀ vs, SqAll R F' H' vs ds → Q vs H') → t σ H Q
/-- an expression: its value frozen -/
structure DE (X : Cx) (R : Rsc W) (e : Expr) (t : TE) (f : FE W) : Prop where
  pe : PE X e t
  rf : RefE R t f
/-- its value to be read at once -/
structure DQ (X : Cx) (R : Rsc W) (e : Expr) (t : TE) (f : FE W) : Prop where
  pe : PE X e t
  rf : RefQ R t f
/-- its value a new object -/
structure DN (X : Cx) (R : Rsc W) (e : Expr) (t : TE) (f : FE W) : Prop where
  pe : PE X e t
  rf : RefN R t f
structure DT (X : Cx) (R : Rsc W) (e : Expr) (t : TT) (f : FT W) : Prop where
  pt : PT X e t
  rf : RefT R t f
/-- arguments, frozen; to be read at once -/
structure DA (X : Cx) (R : Rsc W) (es : List Expr) (t : TA) (f : FA W) : Prop where
  pa : PA X es t
  rf : RefA R t f
structure DB (X : Cx) (R : Rsc W) (es : List Expr) (t : TA) (f : FA W) : Prop where
  pa : PA X es t
  rf : RefB R t f

theorem RefE.q {t : TE} {f : FE W} (h : RefE R t f) : RefQ R t f := fun B η w σ F H S Q p => h B η w σ F H S Q (p.imp fun a w' F' H' _ _ _ q v hv => q v (.fr hv))
theorem PN_of {α : Type} {r : Res (D × W)} {Xc : String → Prop} {Q : VK} (k : Wok R F H w) (p : Post R F H Xc r (PV Q)) : Post R F H Xc r (PN H Q) := by
  match r, p with
  | .ok (d, w'), p =>
    intro F' H' e o q ob hn hq ho hF
    exact p _ _ (e.freeze hq hn hF) (o.freeze hq (k.notfoot hn) hF) _ (ho.dn (fun a u h => by rw [upd_ne (ne_of_none h hF)]; exact h) upd_same)
  | .exc c, p => exact p
  | .stk, p => exact p
theorem RefN.e {t : TE} {f : FE W} (h : RefN R t f) : RefE R t f := fun B η w σ F H S Q p => h B η w σ F H S Q (PN_of (α := Unit) S.wok p)
theorem DE.q {e : Expr} {t : TE} {f : FE W} (h : DE X R e t f) : DQ X R e t f := ⟨h.pe, h.rf.q⟩
theorem DN.e {e : Expr} {t : TE} {f : FE W} (h : DN X R e t f) : DE X R e t f := ⟨h.pe, h.rf.e⟩
theorem DN.q {e : Expr} {t : TE} {f : FE W} (h : DN X R e t f) : DQ X R e t f := h.e.q

/-! ### names, constants -/
def eV (i : Nat) : FE W := fun η w => match η[i]? with
  | some (.fr d) => .ok (d, w)
  | _ => .stk
def eVq (i : Nat) : FE W := fun η w => match η[i]? with
  | some (.fr d) => .ok (d, w)
  | some (.ow d) => .ok (d, w)
  | _ => .stk
def eC (d : D) : FE W := fun _ w => .ok (d, w)
theorem Post.here {α : Type} {Xc : String → Prop} {a : α} {P : α → Hp → Hp → Prop} (k : Wok R F H w) (p : Post R F H Xc (.ok (a, w)) P) : P a F H := p F H .refl k
theorem ref_v (i : Nat) : RefE R (tVar i) (eV i : FE W) := fun B η w σ F H S Q p => by
  unfold eV at p
  split at p
  · rename_i d h
    obtain ⟨v, h1, h2⟩ := S.fr h
    exact ⟨v, h1, p.here S.wok v h2⟩
  · exact p.elim
theorem ref_vq (i : Nat) : RefQ R (tVar i) (eVq i : FE W) := fun B η w σ F H S Q p => by
  unfold eVq at p
  split at p
  · rename_i d h
    obtain ⟨v, h1, h2⟩ := S.fr h
    exact ⟨v, h1, p.here S.wok v (.fr h2)⟩
  · rename_i d h
    obtain ⟨q, o, h1, h2, h3, h4, h5, h6⟩ := S.ow h
    exact ⟨_, h1, p.here S.wok _ (.ow h2 h3 ⟨h6, h4⟩)⟩
  · exact p.elim
theorem ref_c {v : V} {d : D} (h : ∀ F, Dn F v d) : RefE R (tC v) (eC d : FE W) := fun B η w σ F H S Q p => p.here S.wok v (h F)
theorem de_v (i : Nat) {x : Str} {pos : Pos} (hN : X.N[i]? = some x := by rfl) (hv : Vis X.env.scope x := by first | exact Or.inl rfl | exact Or.inr (Or.inl rfl) | exact Or.inr (Or.inr rfl)) (hd : (x == ("__debug__" : Str)) = false := by decide)
    (hcd : (x == ("__classdict__" : Str)) = false := by decide) : DE X R (.Name x pos) (tVar i) (eV i) := ⟨pe_var hN hv hd hcd, ref_v i⟩
theorem dq_v (i : Nat) {x : Str} {pos : Pos} (hN : X.N[i]? = some x := by rfl) (hv : Vis X.env.scope x := by first | exact Or.inl rfl | exact Or.inr (Or.inl rfl) | exact Or.inr (Or.inr rfl)) (hd : (x == ("__debug__" : Str)) = false := by decide)
    (hcd : (x == ("__classdict__" : Str)) = false := by decide) : DQ X R (.Name x pos) (tVar i) (eVq i) := ⟨pe_var hN hv hd hcd, ref_vq i⟩
theorem de_int {i j pos} : DE X R (.Constant (.int i) j pos) (tC (.int i)) (eC (.int i)) := ⟨pe_int, ref_c fun _ => .int i⟩
theorem de_bl {i j pos} : DE X R (.Constant (.bool i) j pos) (tC (.bl i)) (eC (.bool i)) := ⟨pe_bl, ref_c fun _ => .bl i⟩
theorem de_non {j pos} : DE X R (.Constant .none j pos) (tC .non) (eC .none) := ⟨pe_non, ref_c fun _ => .non⟩
theorem de_str {i j pos} : DE X R (.Constant (.str i) j pos) (tC (.str i)) (eC (.str i)) := ⟨pe_str, ref_c fun _ => .str i⟩
/-- a module's constant -/
theorem de_glob {x : Str} {v : V} {u : Value} {d : D} {pos : Pos} (hg : Gl X x) (hm : X.mg x = some u) (r : RelV v u) (h : ∀ F, Dn F v d) (hd : (x == ("__debug__" : Str)) = false := by decide) : DE X R (.Name x pos) (tC v) (eC d) := ⟨pe_glob hg hm r hd, ref_c h⟩

/-! ### operations of two and of one values -/
def ROp (R : Rsc W) (r : R2) (f : D → D → Res D) : Prop := ∀ {F H : Hp} {w : W} {x y : V} {a b : D} {Q : VK}, Wok R F H w → Sq R F H x a → Sq R F H y b → Post R F H (fun _ => False) (liftM (f a b) w) (PV Q) → r x y H Q
def RUn (R : Rsc W) (r : V → Hp → VK → Prop) (f : D → Res D) : Prop := ∀ {F H : Hp} {w : W} {x : V} {a : D} {Q : VK}, Wok R F H w → Sq R F H x a → Post R F H (fun _ => False) (liftM (f a) w) (PV Q) → r x H Q
structure OpD (X : Cx) (R : Rsc W) (fn : Value → Value → Sem Value) (r : R2) (f : D → D → Res D) : Prop where
  op : OpR X fn r
  rf : ROp R r f
/-- what does not tell an error of the program's own -/
theorem Post.nox {α : Type} {Xc : String → Prop} {r : Res α} {P : α → Hp → Hp → Prop} (h : ∀ c, r ≠ .exc c) (p : Post R F H Xc (liftM r w) P) : Post R F H (fun _ => False) (liftM r w) P := by
  match r, h, p with
  | .ok a, _, p => exact p
  | .exc c, h, _ => exact (h c rfl).elim
  | .stk, _, p => exact p
def e2 (f : D → D → Res D) (fa fb : FE W) : FE W := fun η w => bindM (fa η w) fun a w1 => bindM (fb η w1) fun b w2 => liftM (f a b) w2
def e1 (f : D → Res D) (fa : FE W) : FE W := fun η w => bindM (fa η w) fun a w1 => liftM (f a) w1
def NoX2 (f : D → D → Res D) : Prop := ∀ a b c, f a b ≠ .exc c
theorem ref_op {r : R2} {f : D → D → Res D} {ta tb : TE} {fa fb : FE W} (o : ROp R r f) (nx : NoX2 f) (ha : RefQ R ta fa) (hb : RefQ R tb fb) : RefE R (tOp r ta tb) (e2 f fa fb) := fun B η w σ F H S Q p =>
  ha B η w σ F H S _ (p.bind fun a w1 F1 H1 e k p v hv => hb B η w1 σ F1 H1 (S.go e k) _ (p.bind fun b w2 F2 H2 e2 k2 p u hu => o k2 (hv.go e2) hu (p.nox (nx a b))))
theorem ref_un {r : V → Hp → VK → Prop} {f : D → Res D} {ta : TE} {fa : FE W} (o : RUn R r f) (nx : ∀ a c, f a ≠ .exc c) (ha : RefQ R ta fa) : RefE R (tUn r ta) (e1 f fa) := fun B η w σ F H S Q p =>
  ha B η w σ F H S _ (p.bind fun a w1 F1 H1 e k p v hv => o k hv (p.nox (nx a)))
variable {a b c : Expr} {ta tb tc : TE} {fa fb fc : FE W} {pos : Pos}
theorem de_op {op : Operator} {r : R2} {f : D → D → Res D} (o : OpD X R (binaryOp op) r f) (nx : NoX2 f) (ha : DQ X R a ta fa) (hb : DQ X R b tb fb) : DE X R (.BinOp a op b pos) (tOp r ta tb) (e2 f fa fb) :=
  ⟨pe_op o.op ha.pe hb.pe, ref_op o.rf nx ha.rf hb.rf⟩
theorem de_cmp {op : CmpOp} {r : R2} {f : D → D → Res D} (o : OpD X R (compareOp op) r f) (nx : NoX2 f) (ha : DQ X R a ta fa) (hb : DQ X R b tb fb) (hm : behindInMarks op b = false) : DE X R (.Compare a [op] [b] pos) (tOp r ta tb) (e2 f fa fb) :=
  ⟨pe_cmpR o.op ha.pe hb.pe hm, ref_op o.rf nx ha.rf hb.rf⟩
def asB (r : Res (D × W)) : Res (Bool × W) := bindM r fun d w => match d with
  | .bool b => .ok (b, w)
  | _ => .stk
def tst (f : FE W) : FT W := fun η w => asB (f η w)
theorem ref_test {t : TE} {f : FE W} (h : RefE R t f) : RefT R (tTest t) (tst f) := fun B η w σ F H S Q p => by
  unfold tst asB at p
  refine h B η w σ F H S _ (p.bind fun d w1 F1 H1 e k p v hv => ?_)
  cases d with
  | bool b => cases hv; exact ⟨b, rfl, p.here k⟩
  | _ => exact p.elim
theorem dt_cmp {op : CmpOp} {r : R2} {f : D → D → Res D} (o : OpD X R (compareOp op) r f) (nx : NoX2 f) (ha : DQ X R a ta fa) (hb : DQ X R b tb fb) (hm : behindInMarks op b = false) : DT X R (.Compare a [op] [b] pos) (tTest (tOp r ta tb)) (tst (e2 f fa fb)) :=
  ⟨pt_cmpR o.op ha.pe hb.pe hm, ref_test (ref_op o.rf nx ha.rf hb.rf)⟩
theorem dt_val {e : Expr} {t : TE} {f : FE W} (h : DE X R e t f) (he : ∀ whole, isTrue e X.env whole = (do let v ← whole; standAt e.pos; holding [v] (truthy v)) := by intro _; rfl) : DT X R e (tB t) (tst f) := ⟨pt_val h.pe he, ref_test h.rf⟩
/-- a op1 b op2 c -/
def eChain (f g : D → D → Res D) (fa fb fc : FE W) : FE W := fun η w => bindM (fa η w) fun a w1 => bindM (fb η w1) fun b w2 => bindM (liftM (f a b) w2) fun d w3 => match d with
  | .bool true => bindM (fc η w3) fun c w4 => liftM (g b c) w4
  | .bool false => .ok (.bool false, w3)
  | _ => .stk
theorem ref_chain {r r' : R2} {f g : D → D → Res D} (o : ROp R r f) (nx : NoX2 f) (o' : ROp R r' g) (nx' : NoX2 g) (ha : RefQ R ta fa) (hb : RefQ R tb fb) (hc : RefQ R tc fc) : RefE R (tChain r r' ta tb tc) (eChain f g fa fb fc) := fun B η w σ F H S Q p =>
  ha B η w σ F H S _ (p.bind fun a w1 F1 H1 e k p v hv => hb B η w1 σ F1 H1 (S.go e k) _ (p.bind fun b w2 F2 H2 e2 k2 p u hu => by
    refine o k2 (hv.go e2) hu (Post.nox (Xc := B.X) (nx a b) (p.bind fun d w3 F3 H3 e3 k3 p z hz => ?_))
    have S3 := ((S.go e k).go e2 k2).go e3 k3
    cases d with
    | bool d =>
      cases hz
      cases d with
      | true => exact ⟨true, rfl, hc B η w3 σ F3 H3 S3 _ (p.bind fun c w4 F4 H4 e4 k4 p y hy => o' k4 ((hu.go e3).go e4) hy (p.nox (nx' b c)))⟩
      | false => exact ⟨false, rfl, p.here k3 _ (.bl false)⟩
    | _ => exact p.elim))
theorem de_chain {op op' : CmpOp} {r r' : R2} {f g : D → D → Res D} (o : OpD X R (compareOp op) r f) (nx : NoX2 f) (o' : OpD X R (compareOp op') r' g) (nx' : NoX2 g) (ha : DQ X R a ta fa) (hb : DQ X R b tb fb) (hc : DQ X R c tc fc)
    (hm : lastMarks [op, op'] [b, c] = false := by with_unfolding_all rfl) : DE X R (.Compare a [op, op'] [b, c] pos) (tChain r r' ta tb tc) (eChain f g fa fb fc) := ⟨pe_chain o.op o'.op ha.pe hb.pe hc.pe hm, ref_chain o.rf nx o'.rf nx' ha.rf hb.rf hc.rf⟩
theorem dt_chain {op op' : CmpOp} {r r' : R2} {f g : D → D → Res D} (o : OpD X R (compareOp op) r f) (nx : NoX2 f) (o' : OpD X R (compareOp op') r' g) (nx' : NoX2 g) (ha : DQ X R a ta fa) (hb : DQ X R b tb fb) (hc : DQ X R c tc fc)
    (hm : lastMarks [op, op'] [b, c] = false := by with_unfolding_all rfl) : DT X R (.Compare a [op, op'] [b, c] pos) (tTest (tChain r r' ta tb tc)) (tst (eChain f g fa fb fc)) := ⟨pt_chain o.op o'.op ha.pe hb.pe hc.pe hm, ref_test (ref_chain o.rf nx o'.rf nx' ha.rf hb.rf hc.rf)⟩

/-! ### and, or, not, if else -/
def tAndF (f g : FT W) : FT W := fun η w => bindM (f η w) fun b w1 => match b with
  | true => g η w1
  | false => .ok (false, w1)
def tOrF (f g : FT W) : FT W := fun η w => bindM (f η w) fun b w1 => match b with
  | true => .ok (true, w1)
  | false => g η w1
def tNotF (f : FT W) : FT W := fun η w => bindM (f η w) fun b w1 => .ok (!b, w1)
/-- and, or chains as tests -/
structure DW (X : Cx) (R : Rsc W) (e : Expr) (t : TT) (f : FT W) : Prop where
  pw : PW X e t
  rf : RefT R t f
variable {tA tB' : TT} {f g : FT W} {rest : List Expr}
theorem dw_and1 (h : DT X R a tA f) : DW X R (.BoolOp .And [a] pos) tA f := ⟨pw_and1 h.pt, h.rf⟩
theorem dw_or1 (h : DT X R a tA f) : DW X R (.BoolOp .Or [a] pos) tA f := ⟨pw_or1 h.pt, h.rf⟩
theorem ref_and (h : RefT R tA f) (h' : RefT R tB' g) : RefT R (tAnd tA tB') (tAndF f g) := fun B η w σ F H S Q p =>
  h B η w σ F H S _ (p.bind fun b w1 F1 H1 e k p => by
    cases b with
    | true => exact iteT (h' B η w1 σ F1 H1 (S.go e k) _ p)
    | false => exact iteF (p.here k))
theorem ref_or (h : RefT R tA f) (h' : RefT R tB' g) : RefT R (tOr tA tB') (tOrF f g) := fun B η w σ F H S Q p =>
  h B η w σ F H S _ (p.bind fun b w1 F1 H1 e k p => by
    cases b with
    | true => exact iteT (p.here k)
    | false => exact iteF (h' B η w1 σ F1 H1 (S.go e k) _ p))
theorem dw_and (h : DT X R a tA f) (h' : DW X R (.BoolOp .And (b :: rest) pos) tB' g) : DW X R (.BoolOp .And (a :: b :: rest) pos) (tAnd tA tB') (tAndF f g) := ⟨pw_and h.pt h'.pw, ref_and h.rf h'.rf⟩
theorem dw_or (h : DT X R a tA f) (h' : DW X R (.BoolOp .Or (b :: rest) pos) tB' g) : DW X R (.BoolOp .Or (a :: b :: rest) pos) (tOr tA tB') (tOrF f g) := ⟨pw_or h.pt h'.pw, ref_or h.rf h'.rf⟩
theorem DW.t {e : Expr} (h : DW X R e tA f) : DT X R e tA f := ⟨h.pw.pt, h.rf⟩
theorem dt_not (h : DT X R a tA f) : DT X R (.UnaryOp .Not a pos) (tNot tA) (tNotF f) := ⟨pt_not h.pt, fun B η w σ F H S Q p => h.rf B η w σ F H S _ (p.bind fun b w1 F1 H1 e k p => p.here k)⟩
/-- as values (truth values) -/
def eAnd (fa fb : FE W) : FE W := fun η w => bindM (fa η w) fun d w1 => match d with
  | .bool true => fb η w1
  | .bool false => .ok (.bool false, w1)
  | _ => .stk
def eOr (fa fb : FE W) : FE W := fun η w => bindM (fa η w) fun d w1 => match d with
  | .bool true => .ok (.bool true, w1)
  | .bool false => fb η w1
  | _ => .stk
def eNot (fa : FE W) : FE W := fun η w => bindM (fa η w) fun d w1 => match d with
  | .bool b => .ok (.bool (!b), w1)
  | _ => .stk
theorem de_one {op} (h : DE X R a ta fa) : DE X R (.BoolOp op [a] pos) ta fa := ⟨pe_one h.pe, h.rf⟩
theorem de_and (h : DE X R a ta fa) (h' : DE X R (.BoolOp .And (b :: rest) pos) tb fb) : DE X R (.BoolOp .And (a :: b :: rest) pos) (tAndV ta tb) (eAnd fa fb) := ⟨pe_and h.pe h'.pe, fun B η w σ F H S Q p =>
  h.rf B η w σ F H S _ (p.bind fun d w1 F1 H1 e k p v hv => by
    cases d with
    | bool d =>
      cases hv
      cases d with
      | true => exact ⟨true, rfl, iteT (h'.rf B η w1 σ F1 H1 (S.go e k) _ p)⟩
      | false => exact ⟨false, rfl, iteF (p.here k _ (.bl false))⟩
    | _ => exact p.elim)⟩
theorem de_or (h : DE X R a ta fa) (h' : DE X R (.BoolOp .Or (b :: rest) pos) tb fb) : DE X R (.BoolOp .Or (a :: b :: rest) pos) (tOrV ta tb) (eOr fa fb) := ⟨pe_or h.pe h'.pe, fun B η w σ F H S Q p =>
  h.rf B η w σ F H S _ (p.bind fun d w1 F1 H1 e k p v hv => by
    cases d with
    | bool d =>
      cases hv
      cases d with
      | true => exact ⟨true, rfl, iteT (p.here k _ (.bl true))⟩
      | false => exact ⟨false, rfl, iteF (h'.rf B η w1 σ F1 H1 (S.go e k) _ p)⟩
    | _ => exact p.elim)⟩
theorem de_not (h : DE X R a ta fa) : DE X R (.UnaryOp .Not a pos) (tNotV ta) (eNot fa) := ⟨pe_not h.pe, fun B η w σ F H S Q p =>
  h.rf B η w σ F H S _ (p.bind fun d w1 F1 H1 e k p v hv => by
    cases d with
    | bool d => cases hv; exact ⟨d, rfl, p.here k _ (.bl _)⟩
    | _ => exact p.elim)⟩
def eIf (f : FT W) (fa fb : FE W) : FE W := fun η w => bindM (f η w) fun b w1 => match b with
  | true => fa η w1
  | false => fb η w1
theorem de_if {c : Expr} (hc : DT X R c tA f) (ha : DE X R a ta fa) (hb : DE X R b tb fb) : DE X R (.IfExp c a b pos) (tIf tA ta tb) (eIf f fa fb) := ⟨pe_ifExp hc.pt ha.pe hb.pe, fun B η w σ F H S Q p =>
  hc.rf B η w σ F H S _ (p.bind fun b w1 F1 H1 e k p => by
    cases b with
    | true => exact iteT (ha.rf B η w1 σ F1 H1 (S.go e k) _ p)
    | false => exact iteF (hb.rf B η w1 σ F1 H1 (S.go e k) _ p))⟩

/-! ### arguments, displays -/
def aNil : FA W := fun _ w => .ok ([], w)
def aCons (fa : FE W) (r : FA W) : FA W := fun η w => bindM (fa η w) fun d w1 => bindM (r η w1) fun ds w2 => .ok (d :: ds, w2)
variable {e : Expr} {es : List Expr} {te : TE} {t : TA} {fe : FE W} {fs : FA W}
theorem da_nil : DA X R [] tNil (aNil : FA W) := ⟨pa_nil, fun B η w σ F H S Q p => p.here S.wok _ .nil⟩
theorem db_nil : DB X R [] tNil (aNil : FA W) := ⟨pa_nil, fun B η w σ F H S Q p => p.here S.wok _ .nil⟩
theorem da_cons (ha : DE X R e te fe) (hr : DA X R es t fs) (hs : starEach (e :: es) X.env = (false, eval e X.env) :: starEach es X.env := by rfl) : DA X R (e :: es) (tCons te t) (aCons fe fs) := ⟨pa_cons ha.pe hr.pa hs, fun B η w σ F H S Q p =>
  ha.rf B η w σ F H S _ (p.bind fun d w1 F1 H1 e k p v hv => hr.rf B η w1 σ F1 H1 (S.go e k) _ (p.bind fun ds w2 F2 H2 e2 k2 p vs hvs => p.here k2 _ (.cons (hv.mono e2.mono) hvs)))⟩
theorem db_cons (ha : DQ X R e te fe) (hr : DB X R es t fs) (hs : starEach (e :: es) X.env = (false, eval e X.env) :: starEach es X.env := by rfl) : DB X R (e :: es) (tCons te t) (aCons fe fs) := ⟨pa_cons ha.pe hr.pa hs, fun B η w σ F H S Q p =>
  ha.rf B η w σ F H S _ (p.bind fun d w1 F1 H1 e k p v hv => hr.rf B η w1 σ F1 H1 (S.go e k) _ (p.bind fun ds w2 F2 H2 e2 k2 p vs hvs => p.here k2 _ (.cons (hv.go e2) hvs)))⟩
def okLen (n : Nat) : Bool := Nat.ble n 1000000
theorem okLen_le {n : Nat} (h : okLen n = true) : n ≤ 1000000 := Nat.le_of_ble_eq_true h
theorem line_of {n : Nat} (h : n ≤ 1000000) : n ≤ sizeLine := by rw [sizeLine_eq]; omega
theorem line_lt {n : Nat} (h : n ≤ 1000000) : n < sizeLine := by rw [sizeLine_eq]; omega
/-- a new tuple that stands for ds -/
theorem Post.tup {Xc : String → Prop} {ds : List D} {vs : List V} {Q : VK} (k : Wok R F H w) (h : DnL F vs ds) (p : Post R F H Xc (.ok (.tuple ds, w)) (PV Q)) : ∀ q, H q = none → Q (.ref q) (upd H q (.tup vs)) := fun q n =>
  p _ _ (Ext.new k n) (k.new n) _ (.tup upd_same (h.mono fun a u x => by rw [upd_ne (ne_of_none x (k.Fnone n))]; exact x))
/-- a new list that stands for ds, one's own -/
theorem Post.lstN {Xc : String → Prop} {ds : List D} {vs : List V} {Q : VK} (k : Wok R F H w) (h : DnL F vs ds) (p : Post R F H Xc (.ok (.list ds, w)) (PN H Q)) : ∀ q, H q = none → Q (.ref q) (upd H q (.lst vs)) := fun q n =>
  p _ _ (Ext.newO n) (k.newO n) q _ n upd_same (.lst h) (k.Fnone n)
def eTup (fs : FA W) : FE W := fun η w => bindM (fs η w) fun ds w1 => match okLen ds.length with
  | true => .ok (.tuple ds, w1)
  | false => .stk
def eLst (fs : FA W) : FE W := fun η w => bindM (fs η w) fun ds w1 => match okLen ds.length with
  | true => .ok (.list ds, w1)
  | false => .stk
theorem de_tup {x1} (h : DA X R es t fs) : DE X R (.Tuple es x1 pos) (tTup t) (eTup fs) := ⟨pe_tup h.pa, fun B η w σ F H S Q p =>
  h.rf B η w σ F H S _ (p.bind fun ds w1 F1 H1 e k p vs hvs => by
    split at p
    · rename_i hl
      exact ⟨by rw [hvs.len]; exact line_of (okLen_le hl), p.tup k hvs⟩
    · exact p.elim)⟩
theorem PN_go {r : Res (D × W)} {Xc : String → Prop} {Q : VK} {H0 : Hp} (hh : ∀ q, H q = none → H0 q = none) (p : Post R F H Xc r (PN H0 Q)) : Post R F H Xc r (PN H Q) :=
  p.imp fun a w' F' H' _ _ _ q pp o h => q pp o (hh _ h)
theorem Ext.none0 (e : Ext R F H F1 H1) (k1 : Wok R F1 H1 w1) {q : Addr} (h : H1 q = none) : H q = none := by
  cases z : H q with
  | none => rfl
  | some o =>
    by_cases f : R.foot q
    · obtain ⟨u, hu, _⟩ := R.there k1.res f
      rw [h] at hu; cases hu
    · cases y : F q with
      | none => rw [e.keep f (.inl y) z] at h; cases h
      | some u =>
        obtain ⟨z, hz⟩ := k1.sub.some (e.mono _ _ y)
        rw [h] at hz; cases hz
theorem Ext.none (e : Ext R F H F1 H1) (k : Wok R F H w) (k1 : Wok R F1 H1 w1) {q : Addr} (h : H1 q = none) : H q = none := e.none0 k1 h
theorem dn_lst (h : DA X R es t fs) : DN X R (.List es pos) (tLst t) (eLst fs) := ⟨pe_lst h.pa, fun B η w σ F H S Q p =>
  h.rf B η w σ F H S _ (p.bind fun ds w1 F1 H1 e k p vs hvs => by
    split at p
    · rename_i hl
      exact ⟨by rw [hvs.len]; exact line_of (okLen_le hl), Post.lstN k hvs (PN_go (fun q => e.none S.wok k) p)⟩
    · exact p.elim)⟩

/-! ### statements -/
def PostS (R : Rsc W) (B : Bs) (r : Res (Out × W)) (Dd : Ends) : Prop := match r with
  | .ok (.nx η', w') => ∀ σ' F' H', StOk R B η' w' σ' F' H' → Dd.nx σ' H'
  | .ok (.rt d, w') => ∀ v F' H', Ext R B.F B.H F' H' → Wok R F' H' w' → Dn F' v d → Dd.rt v H'
  | .ok (.bk η', w') => ∀ σ' F' H', StOk R B η' w' σ' F' H' → Dd.bk σ' H'
  | .ok (.ct η', w') => ∀ σ' F' H', StOk R B η' w' σ' F' H' → Dd.ct σ' H'
  | .exc c => B.X c
  | .stk => False
def RefS (R : Rsc W) (t : TS) (g : FS W) : Prop := ∀ (B : Bs) (η : EnvD) (w : W) (σ : L2.St) (F H : Hp), StOk R B η w σ F H → ∀ Dd : Ends, PostS R B (g η w) Dd → t Dd σ H
structure DS (X : Cx) (R : Rsc W) (st : Stmt) (t : TS) (g : FS W) : Prop where
  ps : PS X st t
  rf : RefS R t g
structure DSs (X : Cx) (R : Rsc W) (st : List Stmt) (t : TS) (g : FS W) : Prop where
  ps : PSs X st t
  rf : RefS R t g
/-- behind an expression -/
theorem PostS.bind {α : Type} {B : Bs} {η : EnvD} {σ : L2.St} {r : Res (α × W)} {k : α → W → Res (Out × W)} {Dd : Ends} {P : α → Hp → Hp → Prop} (S : StOk R B η w σ F H) (p : PostS R B (bindM r k) Dd)
    (h : ∀ a w1 F1 H1, StOk R B η w1 σ F1 H1 → Ext R F H F1 H1 → PostS R B (k a w1) Dd → P a F1 H1) : Post R F H B.X r P := by
  match r, p with
  | .ok (a, w1), p => exact fun F1 H1 e o => h a w1 F1 H1 (S.go e o) e p
  | .exc c, p => exact p
  | .stk, p => exact p
def sNil : FS W := fun η w => .ok (.nx η, w)
def sSeq (g h : FS W) : FS W := fun η w => bindM (g η w) fun o w1 => match o with
  | .nx η' => h η' w1
  | o => .ok (o, w1)
variable {st : Stmt} {sts : List Stmt} {tS uS : TS} {gS hS : FS W}
theorem dss_nil : DSs X R [] tNext (sNil : FS W) := ⟨pss_nil, fun B η w σ F H S Dd p => p σ F H S⟩
theorem PostS.seq {B : Bs} {r : Res (Out × W)} {h : FS W} {Dd : Ends} {u : TS} (hr : RefS R u h) (p : PostS R B (bindM r fun o w1 => match o with | .nx η' => h η' w1 | o => .ok (o, w1)) Dd) : PostS R B r { Dd with nx := u Dd } := by
  match r, p with
  | .ok (.nx η', w1), p => exact fun σ' F' H' S => hr B η' w1 σ' F' H' S Dd p
  | .ok (.rt d, w1), p => exact p
  | .ok (.bk η', w1), p => exact p
  | .ok (.ct η', w1), p => exact p
  | .exc c, p => exact p
  | .stk, p => exact p
theorem dss_cons (h1 : DS X R st tS gS) (h2 : DSs X R sts uS hS) : DSs X R (st :: sts) (tSeq tS uS) (sSeq gS hS) := ⟨pss_cons h1.ps h2.ps, fun B η w σ F H S Dd p => h1.rf B η w σ F H S _ (p.seq h2.rf)⟩
theorem dss_one (h1 : DS X R st tS gS) : DSs X R [st] tS gS := ⟨pss_one h1.ps, h1.rf⟩
/-- what the proof never comes to -/
def sStk : FS W := fun _ _ => .stk
theorem ds_never : DS X R st tNever (sStk : FS W) := ⟨ps_never, fun B η w σ F H S Dd p => p⟩
theorem dss_never : DSs X R sts tNever (sStk : FS W) := ⟨pss_never, fun B η w σ F H S Dd p => p⟩
/-- an object of a slot is frozen, ahead of a statement -/
def sFz (i : Nat) (g : FS W) : FS W := fun η w => match η[i]? with
  | some (.ow d) => g (η.set i (.fr d)) w
  | _ => g η w
theorem ref_fz {i : Nat} {t : TS} {g : FS W} (h : RefS R t g) : RefS R t (sFz i g) := fun B η w σ F H S Dd p => by
  unfold sFz at p
  split at p
  · rename_i d hi
    obtain ⟨F', S'⟩ := S.freeze hi
    exact h B _ w σ F' H S' Dd p
  · exact h B η w σ F H S Dd p
theorem ds_fz (i : Nat) (h : DS X R st tS gS) : DS X R st tS (sFz i gS) := ⟨h.ps, ref_fz h.rf⟩
def sSet (i : Nat) (f : FE W) : FS W := fun η w => bindM (f η w) fun d w1 => .ok (.nx (η.set i (.fr d)), w1)
def sSetN (i : Nat) (f : FE W) : FS W := fun η w => bindM (f η w) fun d w1 => .ok (.nx (η.set i (.ow d)), w1)
theorem ref_set (i : Nat) {t : TE} {f : FE W} (h : RefE R t f) : RefS R (tAsg t (gName i)) (sSet i f) := fun B η w σ F H S Dd p =>
  h B η w σ F H S _ (p.bind S fun d w1 F1 H1 S1 e p v hv => p _ F1 H1 (S1.setFr i hv))
theorem ref_setN (i : Nat) {t : TE} {f : FE W} (h : RefN R t f) : RefS R (tAsg t (gName i)) (sSetN i f) := fun B η w σ F H S Dd p =>
  h B η w σ F H S _ (p.bind S fun d w1 F1 H1 S1 e p q o hn hq ho hF => by
    refine p _ F1 H1 (S1.setOw i hq ho hF ?_ (S.wok.notfoot hn) fun {j e'} hj hs => ?_)
    · exact S.ext.none0 S.wok hn
    · obtain ⟨p2, o2, g1, g2, _⟩ := S.ow hj
      rw [hs] at g1
      cases g1
      rw [hn] at g2; cases g2)
theorem ds_set {i : Nat} {x : Str} {pos' : Pos} (hN : X.N.Nodup) (hi : X.N[i]? = some x) (hx : Loc X.env.scope x) (he : DE X R e te fe) (hs : swapsWith e (some (.Name x pos')) pos.line X.env = pure false := by rfl) (hf : X.fn x = true ∨ X.env.scope.names.lookup x = some .local := by first | exact .inl rfl | exact .inr rfl | assumption) :
    DS X R (.Assign [.Name x pos'] e pos) (tAsg te (gName i)) (sSet i fe) := ⟨ps_set hN hi hx he.pe hs hf, ref_set i he.rf⟩
theorem ds_setN {i : Nat} {x : Str} {pos' : Pos} (hN : X.N.Nodup) (hi : X.N[i]? = some x) (hx : Loc X.env.scope x) (he : DN X R e te fe) (hs : swapsWith e (some (.Name x pos')) pos.line X.env = pure false := by rfl) (hf : X.fn x = true ∨ X.env.scope.names.lookup x = some .local := by first | exact .inl rfl | exact .inr rfl | assumption) :
    DS X R (.Assign [.Name x pos'] e pos) (tAsg te (gName i)) (sSetN i fe) := ⟨ps_set hN hi hx he.pe hs hf, ref_setN i he.rf⟩
def sRet (f : FE W) : FS W := fun η w => bindM (f η w) fun d w1 => .ok (.rt d, w1)
theorem ref_ret {t : TE} {f : FE W} (h : RefE R t f) : RefS R (tRet t) (sRet f) := fun B η w σ F H S Dd p =>
  h B η w σ F H S _ (p.bind S fun d w1 F1 H1 S1 e p v hv => p v F1 H1 S1.ext S1.wok hv)
theorem ds_ret (he : DE X R e te fe) : DS X R (.Return (some e) pos) (tRet te) (sRet fe) := ⟨ps_ret he.pe, ref_ret he.rf⟩
theorem ds_retN : DS X R (.Return none pos) tRetN (sRet (eC .none) : FS W) := ⟨ps_retN, fun B η w σ F H S Dd p => p .non F H S.ext S.wok .non⟩
theorem ds_pass : DS X R (.Pass pos) tNext (sNil : FS W) := ⟨ps_pass, fun B η w σ F H S Dd p => p σ F H S⟩
def sBrk : FS W := fun η w => .ok (.bk η, w)
def sCnt : FS W := fun η w => .ok (.ct η, w)
theorem ds_break : DS X R (.Break pos) tBreak (sBrk : FS W) := ⟨ps_break, fun B η w σ F H S Dd p => p σ F H S⟩
theorem ds_cont : DS X R (.Continue pos) tCont (sCnt : FS W) := ⟨ps_continue, fun B η w σ F H S Dd p => p σ F H S⟩
def sIf (f : FT W) (g h : FS W) : FS W := fun η w => bindM (f η w) fun b w1 => match b with
  | true => g η w1
  | false => h η w1
theorem ds_if {c : Expr} {as bs : List Stmt} (hc : DT X R c tA f) (ha : DSs X R as tS gS) (hb : DSs X R bs uS hS) : DS X R (.If c as bs pos) (tIfS tA tS uS) (sIf f gS hS) := ⟨ps_if hc.pt ha.ps hb.ps, fun B η w σ F H S Dd p =>
  hc.rf B η w σ F H S _ (p.bind S fun b w1 F1 H1 S1 e p => by
    cases b with
    | true => exact iteT (ha.rf B η w1 σ F1 H1 S1 Dd p)
    | false => exact iteF (hb.rf B η w1 σ F1 H1 S1 Dd p))⟩
/-- an expression whose value is dropped -/
def sDrop (f : FE W) : FS W := fun η w => bindM (f η w) fun _ w1 => .ok (.nx η, w1)
theorem ds_expr (he : DE X R e te fe) (hs : swapsWith e none pos.line X.env = pure false := by rfl) : DS X R (.Expr e pos) (tDrop te) (sDrop fe) := ⟨ps_expr he.pe hs, fun B η w σ F H S Dd p =>
  he.rf B η w σ F H S _ (p.bind S fun d w1 F1 H1 S1 e p v hv => p σ F1 H1 S1)⟩

/-! ### while -/
def sWhile : Nat → FT W → FS W → FS W
  | 0, _, _ => fun _ _ => .stk
  | n + 1, f, g => fun η w => bindM (f η w) fun b w1 => match b with
    | false => .ok (.nx η, w1)
    | true => bindM (g η w1) fun o w2 => match o with
      | .nx η' => sWhile n f g η' w2
      | .ct η' => sWhile n f g η' w2
      | .bk η' => .ok (.nx η', w2)
      | .rt d => .ok (.rt d, w2)
theorem ref_while (n : Nat) {tc : TT} {tb : TS} {f : FT W} {g : FS W} (hc : RefT R tc f) (hb : RefS R tb g) : RefS R (tWhile tc tb) (sWhile n f g) := fun B η w σ F H S Dd p => by
  refine ⟨fun m σ H => ∃ η w F, StOk R B η w σ F H ∧ PostS R B (sWhile m f g η w) Dd, ⟨n, η, w, F, S, p⟩, fun m σ H h => ?_⟩
  obtain ⟨η, w, F, S, p⟩ := h
  cases m with
  | zero => exact p.elim
  | succ m =>
    refine hc B η w σ F H S _ (PostS.bind S p fun b w1 F1 H1 S1 e p => ?_)
    cases b with
    | false => exact iteF (p σ F1 H1 S1)
    | true =>
      refine iteT ⟨fun σ' H' => ∃ η' w' F', StOk R B η' w' σ' F' H' ∧ PostS R B (sWhile m f g η' w') Dd, fun σ' H' h => ⟨m, Nat.lt_succ_self m, h⟩, ?_⟩
      refine hb B η w1 σ F1 H1 S1 _ ?_
      revert p
      generalize g η w1 = r
      intro p
      match r, p with
      | .ok (.nx η', w2), p => exact fun σ' F' H' S' => ⟨η', w2, F', S', p⟩
      | .ok (.ct η', w2), p => exact fun σ' F' H' S' => ⟨η', w2, F', S', p⟩
      | .ok (.bk η', w2), p => exact p
      | .ok (.rt d, w2), p => exact p
      | .exc c, p => exact p
      | .stk, p => exact p
theorem ds_while (n : Nat) {c : Expr} {body : List Stmt} (hp : PassesOwn (model X.prog X.w) X.A X.env X.xe) (hc : DT X R c tA f) (hb : DSs X R body tS gS) : DS X R (.While c body [] pos) (tWhile tA tS) (sWhile n f gS) := ⟨ps_while hp hc.pt hb.ps, ref_while n hc.rf hb.rf⟩
end
end Cw

set_option autoImplicit true
namespace L2
open PySem PySem.Spec PyProof.Rows
theorem tuple_mul1 (l : Addr) (items : Array Value) (n : Nat) (dd : Option Addr) (sl : Array (Option Value)) (u : Tok) :
    Meets (Builtin.«tuple.__mul__» ⟨[.ref l, .int 1 u], []⟩) (fun _ R s => s.heap.get? l = some { cls := .type "tuple", dict := dd, data := .seq items n, slots := sl } ∧
      R (.ok (.ret (Value.ref l))) s) :=
  .of_wp fun prog w A R s h => by
    obtain ⟨hp, g, d, tk, os⟩ := s
    obtain ⟨hl, h⟩ := h
    have f1 := AutoSeq1.idx_int
    have c1 : (items.isEmpty || (1 : Int) == 1) = true := by rw [Bool.or_eq_true]; exact .inr rfl
    wp_walk using wpAny_loadPart' hl
    repeat (first
      | (refine wpAny_ite_false (by decide) ?_; wp_walk using wpAny_loadPart' hl)
      | (refine wpAny_ite_true (by rw [c1]) ?_; wp_walk using wpAny_loadPart' hl))
    exact ⟨_, rfl, h⟩
/-- a tuple once: itself -/
def rRep1 (K : PySem.W.Frag) : R2 := fun x y H Q => ∃ l xs, x = .ref l ∧ y = .int 1 ∧ SqT K H l xs ∧ Q x H
theorem op_rep1 {X : Cx} : OpR X (binaryOp .Mult) (rRep1 X.K) := by
  intro pins s σ H x y v u Q I rx ry h
  obtain ⟨l, xs, rfl, rfl, hT, q⟩ := h
  cases rx
  obtain ⟨t, rfl⟩ := ry
  obtain ⟨its, r, ⟨⟨cls, dd, data, sl⟩, ho, hc, n, hd⟩, hs⟩ := I.tuple hT
  simp only at hc hd
  subst hc hd
  exact wpAny_binaryOp_repeat_ref (T := "tuple") (U := "int") (by decide) ⟨_, ho, rfl⟩ (fun s' => typeIs_int s' 1 t) noFill_tuple_mul F.fills_int_mul F.slot_int_rmul repeat_tuple F.slot_int_index.lookup
    (call_meets F.slot_int_rmul (typeIs_int s 1 t) F.entry_int_rmul (F.args_int_rmul_2 _ _) (int_rmul_tuple 1 t l its.toArray n dd sl)
      ⟨ho, rfl, ⟨_, ho, rfl⟩, call_meets F.slot_tuple_mul ⟨_, ho, rfl⟩ F.entry_tuple_mul (F.args_tuple_mul_2 _ _) (tuple_mul1 l its.toArray n dd sl t) ⟨ho, .ref l, H, I, rfl, q⟩⟩)
end L2
namespace Cw
open PySem PySem.Spec PyProof.Rows L2

/-! ### frozen data as the hand layer's data -/
mutual
theorem Dn.dp {K : PySem.W.Frag} {F H : Hp} (s : SubR F H) : ∀ {v : V} {d : D}, Dn F v d → d.plain = true → Dp K H v d
  | _, _, .non, _ => .non
  | _, _, .bl b, _ => .bl b
  | _, _, .int i, _ => .int i
  | _, _, .str x, _ => .str x
  | _, _, .lst h t, p => .lst (SqL.of (by rcases s _ _ h with h | ⟨z, _⟩; exact h; exact z.elim)) (DnL.dp s t (by simpa [PyData.plain] using p))
  | _, _, .tup h t, p => .tup (SqT.of (by rcases s _ _ h with h | ⟨z, _⟩; exact h; exact z.elim)) (DnL.dp s t (by simpa [PyData.plain] using p))
  | _, _, .dK _ _, p => by simp [PyData.plain] at p
  | _, _, .dT _ _, p => by simp [PyData.plain] at p
theorem DnL.dp {K : PySem.W.Frag} {F H : Hp} (s : SubR F H) : ∀ {v : List V} {d : List D}, DnL F v d → PyData.plainAll d = true → DpAll K H v d
  | _, _, .nil, _ => .nil
  | _, _, .cons h t, p => by
    have q := p
    simp only [PyData.plainAll, Bool.and_eq_true] at q
    exact .cons (Dn.dp s h q.1) (DnL.dp s t q.2)
end
section
variable {W : Type} {R : Rsc W} {F H F1 H1 : Hp} {w w1 : W} {X : Cx}
theorem Sq.dp {K : PySem.W.Frag} (k : Wok R F H w) {v : V} {d : D} (h : Sq R F H v d) (p : d.plain = true) : Dp K H v d := by
  cases h with
  | fr h => exact h.dp k.sub p
  | ow e o n => cases o with
    | lst h => exact .lst (SqL.of e) (h.dp k.sub (by simpa [PyData.plain] using p))
    | dK h => simp [PyData.plain] at p
    | dT h => simp [PyData.plain] at p

/-! ### arithmetic -/
def i2 (g : Int → Int → Int) (a b : D) : Res D := match a, b with
  | .int i, .int j => .ok (.int (g i j))
  | _, _ => .stk
def c2 (g : Int → Int → Bool) (a b : D) : Res D := match a, b with
  | .int i, .int j => .ok (.bool (g i j))
  | _, _ => .stk
theorem rop_i2 {g : Int → Int → Int} : ROp R (rI0 fun i j => .int (g i j)) (i2 g) := by
  intro F H w x y a b Q k hx hy p
  unfold i2 at p
  split at p
  · exact ⟨_, _, hx.int, hy.int, p.here k _ (.int _)⟩
  · exact p.elim
theorem rop_c2 {g : Int → Int → Bool} : ROp R (rI0 fun i j => .bl (g i j)) (c2 g) := by
  intro F H w x y a b Q k hx hy p
  unfold c2 at p
  split at p
  · exact ⟨_, _, hx.int, hy.int, p.here k _ (.bl _)⟩
  · exact p.elim
theorem nx_i2 {g : Int → Int → Int} : NoX2 (i2 g) := by intro a b c; unfold i2; split <;> simp
theorem nx_c2 {g : Int → Int → Bool} : NoX2 (c2 g) := by intro a b c; unfold c2; split <;> simp
abbrev subD := i2 fun i j => i - j
abbrev ltD := c2 fun i j => decide (i < j)
abbrev leD := c2 fun i j => decide (i ≤ j)
abbrev gtD := c2 fun i j => decide (j < i)
abbrev geD := c2 fun i j => decide (j ≤ i)
theorem o_sub : OpD X R (binaryOp .Sub) (rI0 fun i j => .int (i - j)) subD := ⟨op_sub, rop_i2⟩
theorem o_lt : OpD X R (compareOp .Lt) (rI0 fun i j => .bl (decide (i < j))) ltD := ⟨op_lt, rop_c2⟩
theorem o_le : OpD X R (compareOp .LtE) (rI0 fun i j => .bl (decide (i ≤ j))) leD := ⟨op_le, rop_c2⟩
theorem o_gt : OpD X R (compareOp .Gt) (rI0 fun i j => .bl (decide (j < i))) gtD := ⟨op_gt, rop_c2⟩
theorem o_ge : OpD X R (compareOp .GtE) (rI0 fun i j => .bl (decide (j ≤ i))) geD := ⟨op_ge, rop_c2⟩
/-- products: one factor small -/
def small64 (i : Int) : Bool := decide (-(2 ^ 64) < i) && decide (i < 2 ^ 64)
def mulD (a b : D) : Res D := match a, b with
  | .int i, .int j => match small64 i || small64 j with
    | true => .ok (.int (i * j))
    | false => .stk
  | .list xs, .int j => match decide (0 ≤ j) && decide (j ≤ 1000) && okLen (xs.length * j.toNat) with
    | true => .ok (.list (List.replicate j.toNat xs).flatten)
    | false => .stk
  | .tuple xs, .int j => match !xs.isEmpty && decide (2 ≤ j) && decide (j ≤ 1000) && decide (xs.length ≤ 1000) with
    | true => .ok (.tuple (List.replicate j.toNat xs).flatten)
    | false => match j == 1 with
      | true => .ok (.tuple xs)
      | false => .stk
  | _, _ => .stk
def rMulD (K : PySem.W.Frag) : R2 := fun x y H Q => rI CMul (fun i j => .int (i * j)) x y H Q ∨ rRep x y H Q ∨ rRepT K x y H Q ∨ rRep1 K x y H Q
theorem nx_mul : NoX2 mulD := by
  intro a b c
  unfold mulD
  split <;> (try split) <;> (try split) <;> simp
theorem small64_ok {i : Int} (h : small64 i = true) : -(2 ^ 64) < i ∧ i < 2 ^ 64 := by
  unfold small64 at h
  rw [Bool.and_eq_true] at h
  exact ⟨of_decide_eq_true h.1, of_decide_eq_true h.2⟩
theorem DnL.mono1 {vs : List V} {ds : List D} {p : Addr} {o : HO} (h : DnL F vs ds) (n : F p = none) : DnL (upd F p o) vs ds := h.mono fun a u x => by rw [upd_ne (ne_of_none x n)]; exact x
/-- a new list that stands for ds, frozen at once -/
theorem Post.lst {Xc : String → Prop} {ds : List D} {vs : List V} {Q : VK} (k : Wok R F H w) (h : DnL F vs ds) (p : Post R F H Xc (.ok (.list ds, w)) (PV Q)) : ∀ q, H q = none → Q (.ref q) (upd H q (.lst vs)) := fun q n =>
  p _ _ (Ext.new k n) (k.new n) _ (.lst upd_same (h.mono1 (k.Fnone n)))
theorem o_mul : OpD X R (binaryOp .Mult) (rMulD X.K) mulD := by
  refine ⟨OpR.or op_mul (OpR.or op_rep (OpR.or op_repT op_rep1)), ?_⟩
  intro F H w x y a b Q k hx hy p
  unfold mulD at p
  split at p
  · split at p
    · rename_i h
      refine .inl ⟨_, _, hx.int, hy.int, ?_, p.here k _ (.int _)⟩
      rw [Bool.or_eq_true] at h
      exact h.imp small64_ok small64_ok
    · exact p.elim
  · split at p
    · rename_i xs j _ h
      simp only [Bool.and_eq_true, decide_eq_true_eq] at h
      obtain ⟨q, vs, rfl, hq, hd⟩ := hx.lst k
      refine .inr (.inl ⟨q, j, vs, rfl, hy.int, hq, by omega, by omega, ?_, Post.lst k (hd.rep _) p⟩)
      rw [hd.len]; exact line_of (okLen_le h.2)
    · exact p.elim
  · split at p
    · rename_i xs j _ h
      simp only [Bool.and_eq_true, decide_eq_true_eq, Bool.not_eq_true', List.isEmpty_eq_false_iff] at h
      obtain ⟨q, vs, rfl, hq, hq', hd⟩ := hx.tup k
      refine .inr (.inr (.inl ⟨q, j, vs, rfl, hy.int, SqT.of hq', fun e => h.1.1.1 ((hd.nil_iff).mp e), h.1.1.2, h.1.2, by rw [hd.len]; exact h.2, Post.tup k (hd.rep _) p⟩))
    · split at p
      · rename_i xs j _ _ _ h
        have h1 : j = 1 := by simpa using h
        subst h1
        obtain ⟨q, vs, rfl, hq, hq', hd⟩ := hx.tup k
        exact .inr (.inr (.inr ⟨q, vs, rfl, hy.int, SqT.of hq', p.here k _ (.tup hq hd)⟩))
      · exact p.elim
  · exact p.elim
/-- // and % by a positive number -/
def fdivD (a b : D) : Res D := match a, b with
  | .int i, .int j => match decide (0 < j) && decide (j < 1073741824) with
    | true => .ok (.int (i / j))
    | false => .stk
  | _, _ => .stk
def modD (a b : D) : Res D := match a, b with
  | .int i, .int j => match decide (0 < j) with
    | true => .ok (.int (i % j))
    | false => .stk
  | _, _ => .stk
theorem nx_fdiv : NoX2 fdivD := by intro a b c; unfold fdivD; split <;> (try split) <;> simp
theorem nx_mod : NoX2 modD := by intro a b c; unfold modD; split <;> (try split) <;> simp
theorem o_fdiv : OpD X R (binaryOp .FloorDiv) (rI CDiv fun i j => .int (i / j)) fdivD := by
  refine ⟨op_fdiv, ?_⟩
  intro F H w x y a b Q k hx hy p
  unfold fdivD at p
  split at p
  · split at p
    · rename_i h
      simp only [Bool.and_eq_true, decide_eq_true_eq] at h
      exact ⟨_, _, hx.int, hy.int, h, p.here k _ (.int _)⟩
    · exact p.elim
  · exact p.elim
theorem o_mod : OpD X R (binaryOp .Mod) (rI (fun _ j => 0 < j) fun i j => .int (i % j)) modD := by
  refine ⟨op_mod, ?_⟩
  intro F H w x y a b Q k hx hy p
  unfold modD at p
  split at p
  · split at p
    · rename_i h
      exact ⟨_, _, hx.int, hy.int, of_decide_eq_true h, p.here k _ (.int _)⟩
    · exact p.elim
  · exact p.elim
/-! ### + -/
def addD (a b : D) : Res D := match a, b with
  | .int i, .int j => .ok (.int (i + j))
  | .tuple xs, .tuple ys => match okLen (xs.length + ys.length) with
    | true => .ok (.tuple (xs ++ ys))
    | false => .stk
  | .list xs, .list ys => match okLen (xs.length + ys.length) with
    | true => .ok (.list (xs ++ ys))
    | false => .stk
  | .str x, .str y => match okLen (x.length + y.length) with
    | true => .ok (.str (x ++ y))
    | false => .stk
  | _, _ => .stk
def rStrCat : R2 := fun x y H Q => ∃ i j, x = .str i ∧ y = .str j ∧ i.length + j.length ≤ sizeLine ∧ Q (.str (i ++ j)) H
def rAddD (K : PySem.W.Frag) : R2 := fun x y H Q => rI0 (fun i j => .int (i + j)) x y H Q ∨ rCatA K x y H Q ∨ rCat x y H Q ∨ rStrCat x y H Q
theorem nx_add : NoX2 addD := by intro a b c; unfold addD; split <;> (try split) <;> simp
theorem o_add : OpD X R (binaryOp .Add) (rAddD X.K) addD := by
  refine ⟨OpR.or op_add (OpR.or op_catA (OpR.or op_cat op_add_str)), ?_⟩
  intro F H w x y a b Q k hx hy p
  unfold addD at p
  split at p
  · exact .inl ⟨_, _, hx.int, hy.int, p.here k _ (.int _)⟩
  · split at p
    · rename_i h
      obtain ⟨q, vs, rfl, hq, hq', hd⟩ := hx.tup k
      obtain ⟨q2, vs2, rfl, hq2, hq2', hd2⟩ := hy.tup k
      refine .inr (.inl ⟨q, q2, vs, vs2, rfl, rfl, SqT.of hq', SqT.of hq2', by rw [hd.len, hd2.len]; exact line_of (okLen_le h), fun e => ?_, fun _ e => ?_, fun _ _ => Post.tup k (hd.append hd2) p⟩)
      · have e' := hd.nil_iff.mp e
        subst e'
        exact p.here k _ (.tup hq2 hd2)
      · have e' := hd2.nil_iff.mp e
        subst e'
        rw [List.append_nil] at p
        exact p.here k _ (.tup hq hd)
    · exact p.elim
  · split at p
    · rename_i h
      obtain ⟨q, vs, rfl, hq, hd⟩ := hx.lst k
      obtain ⟨q2, vs2, rfl, hq2, hd2⟩ := hy.lst k
      exact .inr (.inr (.inl ⟨q, q2, vs, vs2, rfl, rfl, hq, hq2, by rw [hd.len, hd2.len]; exact line_of (okLen_le h), Post.lst k (hd.append hd2) p⟩))
    · exact p.elim
  · split at p
    · rename_i h
      exact .inr (.inr (.inr ⟨_, _, hx.str, hy.str, line_of (okLen_le h), p.here k _ (.str _)⟩))
    · exact p.elim
  · exact p.elim

/-! ### == and != -/
def plainOk (d : D) : Bool := d.plain && Nat.ble d.depth 60
theorem plainOk_ok {d : D} (h : plainOk d = true) : d.plain = true ∧ d.depth ≤ 60 := by
  unfold plainOk at h
  rw [Bool.and_eq_true] at h
  exact ⟨h.1, Nat.le_of_ble_eq_true h.2⟩
def eqD (a b : D) : Res D := match a, b with
  | .int i, .int j => .ok (.bool (i == j))
  | a, b => match plainOk a && plainOk b with
    | true => .ok (.bool (PyData.eqv a b))
    | false => .stk
def neD (a b : D) : Res D := match a, b with
  | .int i, .int j => .ok (.bool (!(i == j)))
  | a, b => match plainOk a && plainOk b with
    | true => .ok (.bool (!PyData.eqv a b))
    | false => .stk
def rEqP (K : PySem.W.Frag) : R2 := fun x y H Q => ∃ d e, Dp K H x d ∧ Dp K H y e ∧ d.plain = true ∧ e.plain = true ∧ d.depth ≤ 60 ∧ Q (.bl (PyData.eqv d e)) H
def rNeP (K : PySem.W.Frag) : R2 := fun x y H Q => ∃ d e, Dp K H x d ∧ Dp K H y e ∧ d.plain = true ∧ e.plain = true ∧ d.depth ≤ 60 ∧ Q (.bl (!PyData.eqv d e)) H
theorem op_eqP (hu : X.A.units + 64 < cLine) : OpR X (compareOp .Eq) (rEqP X.K) := by
  intro pins s σ H x y v u Q I rx ry h
  obtain ⟨d, e, hd, he, sd, se, dd, q⟩ := h
  obtain ⟨as, r1⟩ := Dp.reads I d x v hd rx
  obtain ⟨bs, r2⟩ := Dp.reads I e y u he ry
  exact PySem.SeqAt.eq_plain r1 r2 sd se (by have := Nat.min_le_left d.depth e.depth; omega) ⟨.bl _, H, I, rfl, q⟩
theorem op_neP (hu : X.A.units + 64 < cLine) : OpR X (compareOp .NotEq) (rNeP X.K) := by
  intro pins s σ H x y v u Q I rx ry h
  obtain ⟨d, e, hd, he, sd, se, dd, q⟩ := h
  obtain ⟨as, r1⟩ := Dp.reads I d x v hd rx
  obtain ⟨bs, r2⟩ := Dp.reads I e y u he ry
  exact PySem.SeqAt.ne_plain r1 r2 sd se (by have := Nat.min_le_left d.depth e.depth; omega) ⟨.bl _, H, I, rfl, q⟩
theorem nx_eq : NoX2 eqD := by intro a b c; unfold eqD; split <;> (try split) <;> simp
theorem nx_ne : NoX2 neD := by intro a b c; unfold neD; split <;> (try split) <;> simp
theorem depth_int (i : Int) : (PyData.int i).depth = 0 := by simp [PyData.depth]
theorem o_eq (hu : X.A.units + 64 < cLine) : OpD X R (compareOp .Eq) (rEqP X.K) eqD := by
  refine ⟨op_eqP hu, ?_⟩
  intro F H w x y a b Q k hx hy p
  unfold eqD at p
  split at p
  · rename_i i j
    refine ⟨_, _, hx.dp k rfl, hy.dp k rfl, rfl, rfl, by rw [depth_int]; exact Nat.zero_le _, ?_⟩
    simp only [PyData.eqv]
    exact p.here k _ (.bl _)
  · split at p
    · rename_i h
      rw [Bool.and_eq_true] at h
      have h1 := plainOk_ok h.1
      have h2 := plainOk_ok h.2
      exact ⟨_, _, hx.dp k h1.1, hy.dp k h2.1, h1.1, h2.1, h1.2, p.here k _ (.bl _)⟩
    · exact p.elim
theorem o_ne (hu : X.A.units + 64 < cLine) : OpD X R (compareOp .NotEq) (rNeP X.K) neD := by
  refine ⟨op_neP hu, ?_⟩
  intro F H w x y a b Q k hx hy p
  unfold neD at p
  split at p
  · rename_i i j
    refine ⟨_, _, hx.dp k rfl, hy.dp k rfl, rfl, rfl, by rw [depth_int]; exact Nat.zero_le _, ?_⟩
    simp only [PyData.eqv]
    exact p.here k _ (.bl _)
  · split at p
    · rename_i h
      rw [Bool.and_eq_true] at h
      have h1 := plainOk_ok h.1
      have h2 := plainOk_ok h.2
      exact ⟨_, _, hx.dp k h1.1, hy.dp k h2.1, h1.1, h2.1, h1.2, p.here k _ (.bl _)⟩
    · exact p.elim
/-! ### is, is not: None, truth values -/
def isNone : D → Bool
  | .none => true
  | _ => false
def isD (a b : D) : Res D := match a, b with
  | a, .none => .ok (.bool (isNone a))
  | .bool x, .bool y => .ok (.bool (decide (x = y)))
  | _, _ => .stk
def isnD (a b : D) : Res D := match a, b with
  | a, .none => .ok (.bool (!isNone a))
  | .bool x, .bool y => .ok (.bool (!decide (x = y)))
  | _, _ => .stk
theorem nx_is : NoX2 isD := by intro a b c; unfold isD; split <;> simp
theorem nx_isn : NoX2 isnD := by intro a b c; unfold isnD; split <;> simp
theorem Sq.isNone {v : V} {d : D} (h : Sq R F H v d) : decide (v = .non) = isNone d := by
  cases h with
  | fr h => cases h <;> rfl
  | ow _ o => cases o <;> rfl
def rIsN (n : Bool) : R2 := fun x y H Q => y = .non ∧ Q (.bl (n ^^ decide (x = .non))) H
theorem o_is : OpD X R (compareOp .Is) (fun x y H Q => (y = .non ∧ Q (.bl (decide (x = .non))) H) ∨ rIsB x y H Q) isD := by
  refine ⟨OpR.or op_isN op_isBl, ?_⟩
  intro F H w x y a b Q k hx hy p
  unfold isD at p
  split at p
  · exact .inl ⟨hy.non, by rw [hx.isNone]; exact p.here k _ (.bl _)⟩
  · exact .inr ⟨_, _, hx.bool, hy.bool, p.here k _ (.bl _)⟩
  · exact p.elim
theorem o_isn : OpD X R (compareOp .IsNot) (fun x y H Q => (y = .non ∧ Q (.bl (!decide (x = .non))) H) ∨ rNotB x y H Q) isnD := by
  refine ⟨OpR.or op_notN op_notBl, ?_⟩
  intro F H w x y a b Q k hx hy p
  unfold isnD at p
  split at p
  · exact .inl ⟨hy.non, by rw [hx.isNone]; exact p.here k _ (.bl _)⟩
  · exact .inr ⟨_, _, hx.bool, hy.bool, p.here k _ (.bl _)⟩
  · exact p.elim
/-! ### in, not in (lists, tuples, of any data) -/
def seqOf : D → Option (List D)
  | .list xs => some xs
  | .tuple xs => some xs
  | _ => none
def inD (a b : D) : Res D := match seqOf b with
  | some xs => match plainOk a && PyData.plainAll xs with
    | true => .ok (.bool (xs.any fun z => PyData.eqv z a))
    | false => .stk
  | none => .stk
def ninD (a b : D) : Res D := match seqOf b with
  | some xs => match plainOk a && PyData.plainAll xs with
    | true => .ok (.bool (!xs.any fun z => PyData.eqv z a))
    | false => .stk
  | none => .stk
def rInP (K : PySem.W.Frag) (n : Bool) : R2 := fun x y H Q => ∃ d ds, Dp K H x d ∧ (Dp K H y (.list ds) ∨ Dp K H y (.tuple ds)) ∧ d.plain = true ∧ PyData.plainAll ds = true ∧ d.depth ≤ 60 ∧ Q (.bl (n ^^ ds.any fun z => PyData.eqv z d)) H
theorem op_inP (hu : X.A.units + 64 < cLine) : OpR X (compareOp .In) (rInP X.K false) := by
  intro pins s σ H x y v u Q I rx ry h
  obtain ⟨d, ds, hd, he, sd, se, dd, q⟩ := h
  obtain ⟨as, r1⟩ := Dp.reads I d x v hd rx
  have hm := Nat.min_le_right (PyData.depthAll ds) d.depth
  rw [Bool.false_xor] at q
  rcases he with he | he
  · obtain ⟨bs, r2⟩ := Dp.reads I _ y u he ry
    exact PySem.SeqAt.in_list_data r2 r1 se sd (by omega) ⟨.bl _, H, I, rfl, q⟩
  · obtain ⟨bs, r2⟩ := Dp.reads I _ y u he ry
    exact PySem.SeqAt.in_tuple_data r2 r1 se sd (by omega) ⟨.bl _, H, I, rfl, q⟩
theorem op_ninP (hu : X.A.units + 64 < cLine) : OpR X (compareOp .NotIn) (rInP X.K true) := by
  intro pins s σ H x y v u Q I rx ry h
  obtain ⟨d, ds, hd, he, sd, se, dd, q⟩ := h
  obtain ⟨as, r1⟩ := Dp.reads I d x v hd rx
  have hm := Nat.min_le_right (PyData.depthAll ds) d.depth
  rw [Bool.true_xor] at q
  rcases he with he | he
  · obtain ⟨bs, r2⟩ := Dp.reads I _ y u he ry
    exact PySem.SeqAt.notIn_list_data r2 r1 se sd (by omega) ⟨.bl _, H, I, rfl, q⟩
  · obtain ⟨bs, r2⟩ := Dp.reads I _ y u he ry
    exact PySem.SeqAt.notIn_tuple_data r2 r1 se sd (by omega) ⟨.bl _, H, I, rfl, q⟩
theorem nx_in : NoX2 inD := by intro a b c; unfold inD; split <;> (try split) <;> simp
theorem nx_nin : NoX2 ninD := by intro a b c; unfold ninD; split <;> (try split) <;> simp
theorem Sq.seqdp {K : PySem.W.Frag} (k : Wok R F H w) {v : V} {d : D} {ds : List D} (h : Sq R F H v d) (e : seqOf d = some ds) (p : PyData.plainAll ds = true) : Dp K H v (.list ds) ∨ Dp K H v (.tuple ds) := by
  cases d <;> simp [seqOf] at e
  · subst e; exact .inl (h.dp k (by simpa [PyData.plain] using p))
  · subst e; exact .inr (h.dp k (by simpa [PyData.plain] using p))
theorem o_in (hu : X.A.units + 64 < cLine) : OpD X R (compareOp .In) (rInP X.K false) inD := by
  refine ⟨op_inP hu, ?_⟩
  intro F H w x y a b Q k hx hy p
  unfold inD at p
  split at p
  · rename_i xs e
    split at p
    · rename_i h
      rw [Bool.and_eq_true] at h
      have h1 := plainOk_ok h.1
      exact ⟨_, _, hx.dp k h1.1, hy.seqdp k e h.2, h1.1, h.2, h1.2, by rw [Bool.false_xor]; exact p.here k _ (.bl _)⟩
    · exact p.elim
  · exact p.elim
theorem o_nin (hu : X.A.units + 64 < cLine) : OpD X R (compareOp .NotIn) (rInP X.K true) ninD := by
  refine ⟨op_ninP hu, ?_⟩
  intro F H w x y a b Q k hx hy p
  unfold ninD at p
  split at p
  · rename_i xs e
    split at p
    · rename_i h
      rw [Bool.and_eq_true] at h
      have h1 := plainOk_ok h.1
      exact ⟨_, _, hx.dp k h1.1, hy.seqdp k e h.2, h1.1, h.2, h1.2, by rw [Bool.true_xor]; exact p.here k _ (.bl _)⟩
    · exact p.elim
  · exact p.elim
/-! ### unary minus, subscripts, slices -/
def negD (a : D) : Res D := match a with
  | .int i => .ok (.int (-i))
  | _ => .stk
theorem de_neg {a : Expr} {ta : TE} {fa : FE W} {pos : Pos} (ha : DQ X R a ta fa) : DE X R (.UnaryOp .USub a pos) (tUn (rU fun i => .int (-i)) ta) (e1 negD fa) :=
  ⟨pe_un un_neg ha.pe, ref_un (by
    intro F H w x a Q k hx p
    unfold negD at p
    split at p
    · exact ⟨_, hx.int, p.here k _ (.int _)⟩
    · exact p.elim) (by intro a c; unfold negD; split <;> simp) ha.rf⟩
def ixD (a b : D) : Res D := match a, b with
  | .list xs, .int i => match atI xs i with
    | some d => .ok d
    | none => .stk
  | .tuple xs, .int i => match atI xs i with
    | some d => .ok d
    | none => .stk
  | _, _ => .stk
theorem DnL.atI {vs : List V} {ds : List D} {i : Int} {d : D} (h : DnL F vs ds) (e : L2.atI ds i = some d) : ∃ v, L2.atI vs i = some v ∧ Dn F v d := by
  unfold L2.atI at e ⊢
  rw [h.len]
  cases z : ixN ds.length i with
  | none => rw [z] at e; cases e
  | some j =>
    rw [z] at e
    exact h.get j e
theorem nx_ix : NoX2 ixD := by intro a b c; unfold ixD; split <;> (try split) <;> simp
theorem rop_ix {K : PySem.W.Frag} : ROp R (fun x y H Q => rIxL K x y H Q ∨ rIxT K x y H Q) ixD := by
  intro F H w x y a b Q k hx hy p
  unfold ixD at p
  split at p
  · split at p
    · rename_i d e
      obtain ⟨q, vs, rfl, hq, hd⟩ := hx.lst k
      obtain ⟨v, h1, h2⟩ := hd.atI e
      exact .inl ⟨q, vs, _, v, rfl, hy.int, SqL.of hq, h1, p.here k _ h2⟩
    · exact p.elim
  · split at p
    · rename_i d e
      obtain ⟨q, vs, rfl, hq', hq, hd⟩ := hx.tup k
      obtain ⟨v, h1, h2⟩ := hd.atI e
      exact .inr ⟨q, vs, _, v, rfl, hy.int, SqT.of hq, h1, p.here k _ h2⟩
    · exact p.elim
  · exact p.elim
theorem de_ix {a b : Expr} {ta tb : TE} {fa fb : FE W} {pos : Pos} (ha : DQ X R a ta fa) (hb : DQ X R b tb fb) (hs : PlainIx b := by exact fun _ _ => rfl) : DE X R (.Subscript a b pos) (tOp (fun x y H Q => rIxL X.K x y H Q ∨ rIxT X.K x y H Q) ta tb) (e2 ixD fa fb) :=
  ⟨pe_ix (IxR.or ix_list ix_tup) ha.pe hb.pe hs, ref_op rop_ix nx_ix ha.rf hb.rf⟩
/-- parts of a slice -/
abbrev FO (W : Type) := EnvD → W → Res (Option Int × W)
structure DO (X : Cx) (R : Rsc W) (e : Option Expr) (t : TO) (f : FO W) : Prop where
  po : PO X e t
  rf : ∀ (B : Bs) (η : EnvD) (w : W) (σ : L2.St) (F H : Hp), StOk R B η w σ F H → ∀ Q : Option Int → Hp → Prop, Post R F H B.X (f η w) (fun o F' H' => Q o H') → t σ H Q
def oNone : FO W := fun _ w => .ok (none, w)
def oSome (f : FE W) : FO W := fun η w => bindM (f η w) fun d w1 => match d with
  | .int i => .ok (some i, w1)
  | _ => .stk
theorem do_none : DO X R none tNoPart (oNone : FO W) := ⟨po_none, fun B η w σ F H S Q p => p.here S.wok⟩
theorem do_some {e : Expr} {t : TE} {f : FE W} (h : DQ X R e t f) : DO X R (some e) (tPart t) (oSome f) := ⟨po_some h.pe, fun B η w σ F H S Q p =>
  h.rf B η w σ F H S _ (p.bind fun d w1 F1 H1 e k p v hv => by
    cases d with
    | int i => exact ⟨i, hv.int, p.here k⟩
    | _ => exact p.elim)⟩
def cutL {α : Type} (xs : List α) (lo hi : Option Int) : List α := (xs.drop (HT.sIx xs.length 0 lo)).take (HT.sIx xs.length xs.length hi - HT.sIx xs.length 0 lo)
def eSlice (fa : FE W) (fl fh : FO W) : FE W := fun η w => bindM (fa η w) fun d w1 => bindM (fl η w1) fun lo w2 => bindM (fh η w2) fun hi w3 => match d with
  | .tuple xs => .ok (.tuple (cutL xs lo hi), w3)
  | .list xs => .ok (.list (cutL xs lo hi), w3)
  | _ => .stk
theorem cutL_whole {α : Type} (xs : List α) {lo hi : Option Int} (h : HT.sIx xs.length 0 lo = 0 ∧ HT.sIx xs.length xs.length hi = xs.length) : cutL xs lo hi = xs := by
  unfold cutL
  rw [h.1, h.2]
  simp
theorem DnL.cut {vs : List V} {ds : List D} (h : DnL F vs ds) (lo hi : Option Int) : DnL F (cutV vs lo hi) (cutL ds lo hi) := by
  unfold cutV cutL
  rw [h.len]
  exact (h.drop _).take _
theorem de_slice {e : Expr} {lo hi : Option Expr} {te : TE} {tl th : TO} {fe : FE W} {fl fh : FO W} {pos p2 : Pos} (he : DQ X R e te fe) (hl : DO X R lo tl fl) (hh : DO X R hi th fh) :
    DE X R (.Subscript e (.Slice lo hi none p2) pos) (tSl (fun x l h H Q => rSlA X.K x l h H Q ∨ rSlL X.K x l h H Q) te tl th) (eSlice fe fl fh) := ⟨pe_slice (SlR.or sl_tupA sl_list) he.pe hl.po hh.po, fun B η w σ F H S Q p => by
  refine he.rf B η w σ F H S _ (p.bind fun d w1 F1 H1 e1 k1 p v hv => ?_)
  have S1 := S.go e1 k1
  refine hl.rf B η w1 σ F1 H1 S1 _ (p.bind fun lo w2 F2 H2 e2 k2 p => ?_)
  have S2 := S1.go e2 k2
  refine hh.rf B η w2 σ F2 H2 S2 _ (p.bind fun hi w3 F3 H3 e3 k3 p => ?_)
  have hv3 := (hv.go e2).go e3
  split at p
  · obtain ⟨q, vs, rfl, hq', hq, hd⟩ := hv3.tup k3
    refine .inl ⟨q, vs, rfl, SqT.of hq, fun hw => ?_, fun _ => Post.tup k3 (hd.cut lo hi) p⟩
    rw [hd.len] at hw
    rw [cutL_whole _ hw] at p
    exact p.here k3 _ (.tup hq' hd)
  · obtain ⟨q, vs, rfl, hq, hd⟩ := hv3.lst k3
    exact .inr ⟨q, vs, rfl, SqL.of hq, Post.lst k3 (hd.cut lo hi) p⟩
  · exact p.elim⟩
end
end Cw

set_option autoImplicit true
namespace Cw
open PySem PySem.Spec PyProof.Rows L2
section
variable {W : Type} {R : Rsc W} {F H F1 H1 : Hp} {w w1 : W} {X : Cx}

/-! ### calls of built-ins -/
structure CallD (X : Cx) (R : Rsc W) (f : Value) (r : List V → Hp → VK → Prop) (g : List D → Res D) : Prop where
  op : CallR X f r
  rf : ∀ {F H : Hp} {w : W} {vs : List V} {ds : List D} {Q : VK}, Wok R F H w → SqAll R F H vs ds → Post R F H (fun _ => False) (liftM (g ds) w) (PV Q) → r vs H Q
/-- .. that hand back a new object -/
structure CallN (X : Cx) (R : Rsc W) (f : Value) (r : List V → Hp → VK → Prop) (g : List D → Res D) : Prop where
  op : CallR X f r
  rf : ∀ {F H : Hp} {w : W} {vs : List V} {ds : List D} {Q : VK}, Wok R F H w → SqAll R F H vs ds → Post R F H (fun _ => False) (liftM (g ds) w) (PN H Q) → r vs H Q
def NoX1 (g : List D → Res D) : Prop := ∀ ds c, g ds ≠ .exc c
def eCall (g : List D → Res D) (fs : FA W) : FE W := fun η w => bindM (fs η w) fun ds w1 => liftM (g ds) w1
variable {r : List V → Hp → VK → Prop} {g : List D → Res D} {t : TA} {fs : FA W} {e : Expr} {es : List Expr} {p pos : Pos} {x : Str} {id T : String}
theorem ref_call {fv : Value} (c : CallD X R fv r g) (nx : NoX1 g) (h : RefB R t fs) : RefE R (tCB r t) (eCall g fs) := fun B η w σ F H S Q p =>
  h B η w σ F H S _ (p.bind fun ds w1 F1 H1 e k p vs hvs => c.rf k hvs (p.nox (nx ds)))
theorem ref_callN {fv : Value} (c : CallN X R fv r g) (nx : NoX1 g) (h : RefB R t fs) : RefN R (tCB r t) (eCall g fs) := fun B η w σ F H S Q p =>
  h B η w σ F H S _ (p.bind fun ds w1 F1 H1 e k p vs hvs => c.rf k hvs (Post.nox (nx ds) (PN_go (fun q => e.none S.wok k) p)))
theorem de_callB (c : CallD X R (.builtin id) r g) (nx : NoX1 g) (hg : Gl X x) (hm : X.mg x = none) (hv : bootBuiltins x = some (.builtin id)) (ha : DB X R (e :: es) t fs) (hn : x ≠ "__name__" := by decide) (hdb : (x == ("__debug__" : Str)) = false := by decide)
    (he : starEach (e :: es) X.env = (false, eval e X.env) :: starEach es X.env := by rfl) (hpl : (backTo pos (starEach es X.env)).any (·.1) = false := by rfl) : DE X R (.Call (.Name x p) (e :: es) [] pos) (tCB r t) (eCall g fs) := ⟨pe_callB c.op hg hm hv ha.pa hn hdb he hpl, ref_call c nx ha.rf⟩
theorem de_callTy (c : CallD X R (.type T) r g) (nx : NoX1 g) (hg : Gl X x) (hm : X.mg x = none) (hv : bootBuiltins x = some (.type T)) (ha : DB X R (e :: es) t fs) (hn : x ≠ "__name__" := by decide) (hdb : (x == ("__debug__" : Str)) = false := by decide)
    (he : starEach (e :: es) X.env = (false, eval e X.env) :: starEach es X.env := by rfl) (hpl : (backTo pos (starEach es X.env)).any (·.1) = false := by rfl) : DE X R (.Call (.Name x p) (e :: es) [] pos) (tCB r t) (eCall g fs) := ⟨pe_callTy c.op hg hm hv ha.pa hn hdb he hpl, ref_call c nx ha.rf⟩
theorem dn_callB (c : CallN X R (.builtin id) r g) (nx : NoX1 g) (hg : Gl X x) (hm : X.mg x = none) (hv : bootBuiltins x = some (.builtin id)) (ha : DB X R (e :: es) t fs) (hn : x ≠ "__name__" := by decide) (hdb : (x == ("__debug__" : Str)) = false := by decide)
    (he : starEach (e :: es) X.env = (false, eval e X.env) :: starEach es X.env := by rfl) (hpl : (backTo pos (starEach es X.env)).any (·.1) = false := by rfl) : DN X R (.Call (.Name x p) (e :: es) [] pos) (tCB r t) (eCall g fs) := ⟨pe_callB c.op hg hm hv ha.pa hn hdb he hpl, ref_callN c nx ha.rf⟩
theorem dn_callTy (c : CallN X R (.type T) r g) (nx : NoX1 g) (hg : Gl X x) (hm : X.mg x = none) (hv : bootBuiltins x = some (.type T)) (ha : DB X R (e :: es) t fs) (hn : x ≠ "__name__" := by decide) (hdb : (x == ("__debug__" : Str)) = false := by decide)
    (he : starEach (e :: es) X.env = (false, eval e X.env) :: starEach es X.env := by rfl) (hpl : (backTo pos (starEach es X.env)).any (·.1) = false := by rfl) : DN X R (.Call (.Name x p) (e :: es) [] pos) (tCB r t) (eCall g fs) := ⟨pe_callTy c.op hg hm hv ha.pa hn hdb he hpl, ref_callN c nx ha.rf⟩
theorem SqAll.one {vs : List V} {d : D} (h : SqAll R F H vs [d]) : ∃ v, vs = [v] ∧ Sq R F H v d := by
  cases h with
  | cons h t => cases t; exact ⟨_, rfl, h⟩
theorem SqAll.two {vs : List V} {d e : D} (h : SqAll R F H vs [d, e]) : ∃ v u, vs = [v, u] ∧ Sq R F H v d ∧ Sq R F H u e := by
  cases h with
  | cons h t =>
    obtain ⟨u, rfl, h'⟩ := t.one
    exact ⟨_, _, rfl, h, h'⟩
theorem Sq.dicK {v : V} {ds : List (D × D)} (k : Wok R F H w) (h : Sq R F H v (.dict ds)) : (∃ p kvs, v = .ref p ∧ Rd H p (.dK kvs) ∧ DnK F kvs ds) ∨ ∃ p kvs r, v = .ref p ∧ Rd H p (.dT kvs) ∧ ds = (.none, .none) :: r ∧ DnT F kvs r := by
  cases h with
  | fr h => cases h with
    | dK e h => exact .inl ⟨_, _, rfl, by rcases k.sub _ _ e with e | ⟨_, od, e⟩; exact .inl e; exact .inr ⟨od, e⟩, h⟩
    | dT e h => exact .inr ⟨_, _, _, rfl, by rcases k.sub _ _ e with e | ⟨_, od, e⟩; exact .inl e; exact .inr ⟨od, e⟩, rfl, h⟩
  | ow e o n => cases o with
    | dK h => exact .inl ⟨_, _, rfl, .inl e, h⟩
    | dT h => exact .inr ⟨_, _, _, rfl, .inl e, rfl, h⟩
theorem DnK.len : ∀ {vs : List (Key × V)} {ds : List (D × D)}, DnK F vs ds → vs.length = ds.length
  | _, _, .nil => rfl
  | _, _, .cons _ t => by simp [DnK.len t]
theorem DnT.len : ∀ {vs : List (List Key × V)} {ds : List (D × D)}, DnT F vs ds → vs.length = ds.length
  | _, _, .nil => rfl
  | _, _, .cons _ t => by simp [DnT.len t]

/-- len -/
def lenD : List D → Res D
  | [.list xs] => .ok (.int xs.length)
  | [.tuple xs] => .ok (.int xs.length)
  | _ => .stk
theorem c_len : CallD X R (.builtin "len") (fun xs H Q => ∃ p ys, xs = [.ref p] ∧ (SqL X.K H p ys ∨ SqT X.K H p ys) ∧ Q (.int ys.length) H) lenD := ⟨call_len_seq, by
  intro F H w vs ds Q k h p
  unfold lenD at p
  split at p
  · obtain ⟨v, rfl, hv⟩ := h.one
    obtain ⟨q, us, rfl, hq, hd⟩ := hv.lst k
    exact ⟨q, us, rfl, .inl (SqL.of hq), by rw [hd.len]; exact p.here k _ (.int _)⟩
  · obtain ⟨v, rfl, hv⟩ := h.one
    obtain ⟨q, us, rfl, _, hq, hd⟩ := hv.tup k
    exact ⟨q, us, rfl, .inr (SqT.of hq), by rw [hd.len]; exact p.here k _ (.int _)⟩
  · exact p.elim⟩
theorem nx_len : NoX1 lenD := by intro ds c; unfold lenD; split <;> simp
def absD : List D → Res D
  | [.int i] => .ok (.int (if i < 0 then -i else i))
  | _ => .stk
theorem c_abs : CallD X R (.builtin "abs") (fun xs H Q => ∃ i, xs = [.int i] ∧ Q (.int (if i < 0 then -i else i)) H) absD := ⟨call_abs, by
  intro F H w vs ds Q k h p
  unfold absD at p
  split at p
  · obtain ⟨v, rfl, hv⟩ := h.one
    exact ⟨_, by rw [hv.int], p.here k _ (.int _)⟩
  · exact p.elim⟩
theorem nx_abs : NoX1 absD := by intro ds c; unfold absD; split <;> simp
def intD : List D → Res D
  | [.int i] => .ok (.int i)
  | [.bool b] => .ok (.int (if b then 1 else 0))
  | _ => .stk
theorem c_int : CallD X R (.type "int") (fun xs H Q => (∃ i, xs = [.int i] ∧ Q (.int i) H) ∨ ∃ k, xs = [.bl k] ∧ Q (.int (if k then 1 else 0)) H) intD := ⟨call_int1, by
  intro F H w vs ds Q k h p
  unfold intD at p
  split at p
  · obtain ⟨v, rfl, hv⟩ := h.one
    exact .inl ⟨_, by rw [hv.int], p.here k _ (.int _)⟩
  · obtain ⟨v, rfl, hv⟩ := h.one
    exact .inr ⟨_, by rw [hv.bool], p.here k _ (.int _)⟩
  · exact p.elim⟩
theorem nx_int : NoX1 intD := by intro ds c; unfold intD; split <;> simp
def boolsOf : List D → Option (List Bool)
  | [] => some []
  | .bool b :: r => (boolsOf r).map (b :: ·)
  | _ :: _ => none
def intsOf : List D → Option (List Int)
  | [] => some []
  | .int b :: r => (intsOf r).map (b :: ·)
  | _ :: _ => none
theorem boolsOf_vals : ∀ {ds : List D} {bs : List Bool} {vs : List V}, boolsOf ds = some bs → DnL F vs ds → vs = bs.map V.bl
  | [], bs, vs, e, h => by cases e; cases h; rfl
  | .bool b :: r, bs, vs, e, h => by
    cases h with
    | cons h t =>
      cases h
      simp only [boolsOf, Option.map_eq_some_iff] at e
      obtain ⟨bs', e1, rfl⟩ := e
      rw [boolsOf_vals e1 t]; rfl
theorem intsOf_vals : ∀ {ds : List D} {bs : List Int} {vs : List V}, intsOf ds = some bs → DnL F vs ds → vs = bs.map V.int
  | [], bs, vs, e, h => by cases e; cases h; rfl
  | .int b :: r, bs, vs, e, h => by
    cases h with
    | cons h t =>
      cases h
      simp only [intsOf, Option.map_eq_some_iff] at e
      obtain ⟨bs', e1, rfl⟩ := e
      rw [intsOf_vals e1 t]; rfl
theorem dnl_ints : ∀ ns : List Int, DnL F (ns.map V.int) (ns.map PyData.int)
  | [] => .nil
  | n :: r => .cons (.int n) (dnl_ints r)
def allD : List D → Res D
  | [.list xs] => match boolsOf xs with
    | some bs => .ok (.bool (bs.all fun b => b))
    | none => .stk
  | _ => .stk
def anyD : List D → Res D
  | [.list xs] => match boolsOf xs with
    | some bs => .ok (.bool (bs.any fun b => b))
    | none => .stk
  | _ => .stk
theorem c_all (hc : X.calm = true) : CallD X R (.builtin "all") (rAll X.K) allD := ⟨cr_all hc, by
  intro F H w vs ds Q k h p
  unfold allD at p
  split at p
  · split at p
    · rename_i bs e
      obtain ⟨v, rfl, hv⟩ := h.one
      obtain ⟨q, us, rfl, hq, hd⟩ := hv.lst k
      exact ⟨q, bs, rfl, by rw [← boolsOf_vals e hd]; exact SqL.of hq, p.here k _ (.bl _)⟩
    · exact p.elim
  · exact p.elim⟩
theorem c_any (hc : X.calm = true) : CallD X R (.builtin "any") (rAny X.K) anyD := ⟨cr_any hc, by
  intro F H w vs ds Q k h p
  unfold anyD at p
  split at p
  · split at p
    · rename_i bs e
      obtain ⟨v, rfl, hv⟩ := h.one
      obtain ⟨q, us, rfl, hq, hd⟩ := hv.lst k
      exact ⟨q, bs, rfl, by rw [← boolsOf_vals e hd]; exact SqL.of hq, p.here k _ (.bl _)⟩
    · exact p.elim
  · exact p.elim⟩
theorem nx_all : NoX1 allD := by intro ds c; unfold allD; split <;> (try split) <;> simp
theorem nx_any : NoX1 anyD := by intro ds c; unfold anyD; split <;> (try split) <;> simp
/-- sum -/
def sumD : List D → Res D
  | [.list xs] => match intsOf xs with
    | some ns => .ok (.int ns.sum)
    | none => .stk
  | [.tuple xs] => match intsOf xs with
    | some ns => .ok (.int ns.sum)
    | none => .stk
  | _ => .stk
theorem nx_sum : NoX1 sumD := by intro ds c; unfold sumD; split <;> (try split) <;> simp
/-- max, min -/
def maxI (n : Int) (ns : List Int) : Int := ns.foldl (fun a b => if b > a then b else a) n
def minI (n : Int) (ns : List Int) : Int := ns.foldl (fun a b => if b < a then b else a) n
theorem maxI_mem : ∀ (ns : List Int) (n : Int), maxI n ns ∈ n :: ns
  | [], n => by simp [maxI]
  | k :: r, n => by
    have ih := maxI_mem r (if k > n then k else n)
    show maxI (if k > n then k else n) r ∈ n :: k :: r
    rcases List.mem_cons.mp ih with h | h
    · rw [h]; split <;> simp
    · exact List.mem_cons_of_mem _ (List.mem_cons_of_mem _ h)
theorem maxI_le : ∀ (ns : List Int) (n : Int), ∀ y ∈ n :: ns, y ≤ maxI n ns
  | [], n, y, h => by simp at h; subst h; exact Int.le_refl _
  | k :: r, n, y, h => by
    have ih := maxI_le r (if k > n then k else n)
    show y ≤ maxI (if k > n then k else n) r
    have h0 := ih _ List.mem_cons_self
    rcases List.mem_cons.mp h with rfl | h
    · revert h0; generalize maxI _ r = m; split <;> omega
    · rcases List.mem_cons.mp h with rfl | h
      · revert h0; generalize maxI _ r = m; split <;> omega
      · exact ih _ (List.mem_cons_of_mem _ h)
theorem minI_mem : ∀ (ns : List Int) (n : Int), minI n ns ∈ n :: ns
  | [], n => by simp [minI]
  | k :: r, n => by
    have ih := minI_mem r (if k < n then k else n)
    show minI (if k < n then k else n) r ∈ n :: k :: r
    rcases List.mem_cons.mp ih with h | h
    · rw [h]; split <;> simp
    · exact List.mem_cons_of_mem _ (List.mem_cons_of_mem _ h)
theorem minI_le : ∀ (ns : List Int) (n : Int), ∀ y ∈ n :: ns, minI n ns ≤ y
  | [], n, y, h => by simp at h; subst h; exact Int.le_refl _
  | k :: r, n, y, h => by
    have ih := minI_le r (if k < n then k else n)
    show minI (if k < n then k else n) r ≤ y
    have h0 := ih _ List.mem_cons_self
    rcases List.mem_cons.mp h with rfl | h
    · revert h0; generalize minI _ r = m; split <;> omega
    · rcases List.mem_cons.mp h with rfl | h
      · revert h0; generalize minI _ r = m; split <;> omega
      · exact ih _ (List.mem_cons_of_mem _ h)
def rMax2 : List V → Hp → VK → Prop := fun xs H Q => ∃ i j, xs = [.int i, .int j] ∧ Q (.int (if j > i then j else i)) H
def rMin2 : List V → Hp → VK → Prop := fun xs H Q => ∃ i j, xs = [.int i, .int j] ∧ Q (.int (if j < i then j else i)) H
def maxD1 : List D → Res D
  | [.int i, .int j] => .ok (.int (if j > i then j else i))
  | [.list xs] => match intsOf xs with
    | some (n :: ns) => .ok (.int (maxI n ns))
    | _ => .stk
  | _ => .stk
def minD1 : List D → Res D
  | [.int i, .int j] => .ok (.int (if j < i then j else i))
  | [.list xs] => match intsOf xs with
    | some (n :: ns) => .ok (.int (minI n ns))
    | _ => .stk
  | _ => .stk
theorem nx_max1 : NoX1 maxD1 := by intro ds c; unfold maxD1; split <;> (try split) <;> simp
theorem nx_min1 : NoX1 minD1 := by intro ds c; unfold minD1; split <;> (try split) <;> simp
theorem c_max1 (hc : X.calm = true) : CallD X R (.builtin "max") (fun xs H Q => rMax2 xs H Q ∨ rMax X.K xs H Q) maxD1 := ⟨CallR.or (call_max2 hc) (cr_max hc), by
  intro F H w vs ds Q k h p
  unfold maxD1 at p
  split at p
  · obtain ⟨v, u, rfl, hv, hu⟩ := h.two
    exact .inl ⟨_, _, by rw [hv.int, hu.int], p.here k _ (.int _)⟩
  · split at p
    · rename_i n ns e
      obtain ⟨v, rfl, hv⟩ := h.one
      obtain ⟨q, us, rfl, hq, hd⟩ := hv.lst k
      refine .inr ⟨q, n :: ns, rfl, by rw [← intsOf_vals e hd]; exact SqL.of hq, by simp, fun m hm hb => ?_⟩
      have e2 : m = maxI n ns := Int.le_antisymm (maxI_le _ _ _ hm) (hb _ (maxI_mem _ _))
      rw [e2]; exact p.here k _ (.int _)
    · exact p.elim
  · exact p.elim⟩
theorem c_min1 (hc : X.calm = true) : CallD X R (.builtin "min") (fun xs H Q => rMin2 xs H Q ∨ rMin X.K xs H Q) minD1 := ⟨CallR.or (call_min2 hc) (cr_min hc), by
  intro F H w vs ds Q k h p
  unfold minD1 at p
  split at p
  · obtain ⟨v, u, rfl, hv, hu⟩ := h.two
    exact .inl ⟨_, _, by rw [hv.int, hu.int], p.here k _ (.int _)⟩
  · split at p
    · rename_i n ns e
      obtain ⟨v, rfl, hv⟩ := h.one
      obtain ⟨q, us, rfl, hq, hd⟩ := hv.lst k
      refine .inr ⟨q, n :: ns, rfl, by rw [← intsOf_vals e hd]; exact SqL.of hq, by simp, fun m hm hb => ?_⟩
      have e2 : m = minI n ns := Int.le_antisymm (hb _ (minI_mem _ _)) (minI_le _ _ _ hm)
      rw [e2]; exact p.here k _ (.int _)
    · exact p.elim
  · exact p.elim⟩
/-- sorted of fewer than 64 ints (a list) -/
def insI (n : Int) : List Int → List Int
  | [] => [n]
  | k :: r => match decide (n ≤ k) with
    | true => n :: k :: r
    | false => k :: insI n r
def sortI : List Int → List Int
  | [] => []
  | n :: r => insI n (sortI r)
theorem insI_perm (n : Int) : ∀ ns : List Int, (insI n ns).Perm (n :: ns)
  | [] => .refl _
  | k :: r => by
    unfold insI
    split
    · exact .refl _
    · exact ((insI_perm n r).cons k).trans (.swap _ _ _)
theorem sortI_perm : ∀ ns : List Int, (sortI ns).Perm ns
  | [] => .refl _
  | n :: r => (insI_perm n _).trans ((sortI_perm r).cons n)
theorem insI_sorted (n : Int) : ∀ ns : List Int, ns.Pairwise (· ≤ ·) → (insI n ns).Pairwise (· ≤ ·)
  | [], _ => by simp [insI]
  | k :: r, h => by
    unfold insI
    have h' := List.pairwise_cons.mp h
    split
    · rename_i e
      have e' := of_decide_eq_true e
      exact List.pairwise_cons.mpr ⟨fun a ha => by
        rcases List.mem_cons.mp ha with rfl | ha
        · exact e'
        · exact Int.le_trans e' (h'.1 a ha), h⟩
    · rename_i e
      have e' := of_decide_eq_false e
      refine List.pairwise_cons.mpr ⟨fun a ha => ?_, insI_sorted n r h'.2⟩
      rcases List.mem_cons.mp ((insI_perm n r).mem_iff.mp ha) with rfl | ha
      · omega
      · exact h'.1 a ha
theorem sortI_sorted : ∀ ns : List Int, (sortI ns).Pairwise (· ≤ ·)
  | [] => .nil
  | n :: r => insI_sorted n _ (sortI_sorted r)
def sortedD1 : List D → Res D
  | [.list xs] => match intsOf xs with
    | some ns => match Nat.blt ns.length 64 with
      | true => .ok (.list ((sortI ns).map PyData.int))
      | false => .stk
    | none => .stk
  | _ => .stk
theorem nx_sorted1 : NoX1 sortedD1 := by intro ds c; unfold sortedD1; split <;> (try split) <;> (try split) <;> simp
theorem c_sorted1 : CallN X R (.builtin "sorted") (rSorted X.K) sortedD1 := ⟨cr_sorted, by
  intro F H w vs ds Q k h p
  unfold sortedD1 at p
  split at p
  · split at p
    · split at p
      · rename_i ns e _ hl
        obtain ⟨v, rfl, hv⟩ := h.one
        obtain ⟨q, us, rfl, hq, hd⟩ := hv.lst k
        refine ⟨q, ns, rfl, by rw [← intsOf_vals e hd]; exact SqL.of hq, Nat.le_of_ble_eq_true hl, fun ns' p' hp hs hn => ?_⟩
        have e2 : ns' = sortI ns := PySem.W.ksm_same (hp.trans (sortI_perm ns).symm) hs (sortI_sorted ns)
        rw [e2]
        exact Post.lstN k (dnl_ints _) p p' hn
      · exact p.elim
    · exact p.elim
  · exact p.elim⟩
/-- list(x), tuple(x) -/
def listD : List D → Res D
  | [.list xs] => .ok (.list xs)
  | [.tuple xs] => .ok (.list xs)
  | _ => .stk
theorem nx_list : NoX1 listD := by intro ds c; unfold listD; split <;> simp
theorem c_list : CallN X R (.type "list") (fun xs H Q => ∃ p ys, xs = [.ref p] ∧ (SqL X.K H p ys ∨ SqT X.K H p ys) ∧ ∀ l, H l = none → Q (.ref l) (upd H l (.lst ys))) listD := ⟨call_list_of, by
  intro F H w vs ds Q k h p
  unfold listD at p
  split at p
  · obtain ⟨v, rfl, hv⟩ := h.one
    obtain ⟨q, us, rfl, hq, hd⟩ := hv.lst k
    exact ⟨q, us, rfl, .inl (SqL.of hq), Post.lstN k hd p⟩
  · obtain ⟨v, rfl, hv⟩ := h.one
    obtain ⟨q, us, rfl, _, hq, hd⟩ := hv.tup k
    exact ⟨q, us, rfl, .inr (SqT.of hq), Post.lstN k hd p⟩
  · exact p.elim⟩
def tupleD : List D → Res D
  | [.list xs] => .ok (.tuple xs)
  | [.tuple xs] => .ok (.tuple xs)
  | _ => .stk
theorem nx_tuple : NoX1 tupleD := by intro ds c; unfold tupleD; split <;> simp
theorem c_tuple : CallD X R (.type "tuple") (fun xs H Q => ∃ p ys, xs = [.ref p] ∧ ((SqL X.K H p ys ∧ ∀ l, H l = none → Q (.ref l) (upd H l (.tup ys))) ∨ (SqT X.K H p ys ∧ Q (.ref p) H))) tupleD := ⟨call_tuple_of, by
  intro F H w vs ds Q k h p
  unfold tupleD at p
  split at p
  · obtain ⟨v, rfl, hv⟩ := h.one
    obtain ⟨q, us, rfl, hq, hd⟩ := hv.lst k
    exact ⟨q, us, rfl, .inl ⟨SqL.of hq, Post.tup k hd p⟩⟩
  · obtain ⟨v, rfl, hv⟩ := h.one
    obtain ⟨q, us, rfl, hq', hq, hd⟩ := hv.tup k
    exact ⟨q, us, rfl, .inr ⟨SqT.of hq, p.here k _ (.tup hq' hd)⟩⟩
  · exact p.elim⟩
/-- list(range(..)), tuple(range(..)) -/
def rgD (a b : Int) : List D := (List.range (b - a).toNat).map fun i => PyData.int (a + (i : Nat))
theorem dnl_rg (a b : Int) : DnL F (rgV a b) (rgD a b) := by
  unfold rgV rgD
  generalize (b - a).toNat = n
  generalize List.range n = l
  induction l with
  | nil => exact .nil
  | cons i r ih => exact .cons (.int _) ih
def rgOk (a b : Int) : Bool := decide (0 ≤ a) && decide (b ≤ 1000000) && decide (a ≤ 1000000) && decide (0 ≤ b)
theorem rgOk_ok {a b : Int} (h : rgOk a b = true) : RgOk a b := by
  unfold rgOk at h
  simp only [Bool.and_eq_true, decide_eq_true_eq] at h
  exact RgOk.of_le h.1.1.1 (by omega) (by omega) h.2
/-- the bounds of a range -/
structure DRg (X : Cx) (R : Rsc W) (e : Expr) (t : L2.St → Hp → (Int → Int → Hp → Prop) → Prop) (f : EnvD → W → Res ((Int × Int) × W)) : Prop where
  pr : PRg X e t
  rf : ∀ (B : Bs) (η : EnvD) (w : W) (σ : L2.St) (F H : Hp), StOk R B η w σ F H → ∀ Q : Int → Int → Hp → Prop, Post R F H B.X (f η w) (fun p F' H' => Q p.1 p.2 H') → t σ H Q
def g1 (fa : FE W) : EnvD → W → Res ((Int × Int) × W) := fun η w => bindM (fa η w) fun d w1 => match d with
  | .int n => .ok ((0, n), w1)
  | _ => .stk
def g2 (fa fb : FE W) : EnvD → W → Res ((Int × Int) × W) := fun η w => bindM (fa η w) fun d w1 => bindM (fb η w1) fun e w2 => match d, e with
  | .int n, .int m => .ok ((n, m), w2)
  | _, _ => .stk
variable {a b : Expr} {ta tb : TE} {fa fb : FE W}
theorem dr_1 (hg : Gl X "range") (hm : X.mg "range" = none) (ha : DQ X R a ta fa) (na : starEach [a] X.env = (false, eval a X.env) :: starEach [] X.env := by rfl) : DRg X R (.Call (.Name "range" p) [a] [] pos) (tRg1 ta) (g1 fa) := ⟨prg_1 hg hm ha.pe na, fun B η w σ F H S Q p =>
  ha.rf B η w σ F H S _ (p.bind fun d w1 F1 H1 e k p v hv => by
    cases d with
    | int n => exact ⟨n, hv.int, p.here k⟩
    | _ => exact p.elim)⟩
theorem dr_2 (hg : Gl X "range") (hm : X.mg "range" = none) (ha : DQ X R a ta fa) (hb : DQ X R b tb fb) (na : starEach [a, b] X.env = (false, eval a X.env) :: starEach [b] X.env := by rfl) (nb : starEach [b] X.env = (false, eval b X.env) :: starEach [] X.env := by rfl) (hp : (backTo pos (starEach [b] X.env)).any (·.1) = false := by rfl) : DRg X R (.Call (.Name "range" p) [a, b] [] pos) (tRg2 ta tb) (g2 fa fb) := ⟨prg_2 hg hm ha.pe hb.pe na nb hp, fun B η w σ F H S Q p =>
  ha.rf B η w σ F H S _ (p.bind fun d w1 F1 H1 e k p v hv => hb.rf B η w1 σ F1 H1 (S.go e k) _ (p.bind fun d2 w2 F2 H2 e2 k2 p u hu => by
    cases d with
    | int n => cases d2 with
      | int m => exact ⟨n, m, hv.int, hu.int, p.here k2⟩
      | _ => exact p.elim
    | _ => exact p.elim))⟩
def eRgL (f : EnvD → W → Res ((Int × Int) × W)) : FE W := fun η w => bindM (f η w) fun p w1 => match rgOk p.1 p.2 with
  | true => .ok (.list (rgD p.1 p.2), w1)
  | false => .stk
def eRgT (f : EnvD → W → Res ((Int × Int) × W)) : FE W := fun η w => bindM (f η w) fun p w1 => match rgOk p.1 p.2 with
  | true => .ok (.tuple (rgD p.1 p.2), w1)
  | false => .stk
variable {te : L2.St → Hp → (Int → Int → Hp → Prop) → Prop} {fr : EnvD → W → Res ((Int × Int) × W)}
theorem dn_listRg (hc : X.calm = true) (hg : Gl X "list") (hm : X.mg "list" = none) (he : DRg X R e te fr) (na : starEach [e] X.env = (false, eval e X.env) :: starEach [] X.env := by rfl) : DN X R (.Call (.Name "list" p) [e] [] pos) (tLstRg te) (eRgL fr) := ⟨pe_listRg hc hg hm he.pr na, fun B η w σ F H S Q p =>
  he.rf B η w σ F H S _ (p.bind fun ab w1 F1 H1 e k p => by
    split at p
    · rename_i h
      exact ⟨rgOk_ok h, Post.lstN k (dnl_rg _ _) (PN_go (fun q => e.none S.wok k) p)⟩
    · exact p.elim)⟩
theorem de_tupRg (hc : X.calm = true) (hg : Gl X "tuple") (hm : X.mg "tuple" = none) (he : DRg X R e te fr) (na : starEach [e] X.env = (false, eval e X.env) :: starEach [] X.env := by rfl) : DE X R (.Call (.Name "tuple" p) [e] [] pos) (tTupRg te) (eRgT fr) := ⟨pe_tupRg hc hg hm he.pr na, fun B η w σ F H S Q p =>
  he.rf B η w σ F H S _ (p.bind fun ab w1 F1 H1 e k p => by
    split at p
    · rename_i h
      exact ⟨rgOk_ok h, Post.tup k (dnl_rg _ _) p⟩
    · exact p.elim)⟩
/-! ### isinstance(x, T), T a built-in type -/
def tyD : D → String
  | .none => "NoneType"
  | .bool _ => "bool"
  | .int _ => "int"
  | .str _ => "str"
  | .list _ => "list"
  | .tuple _ => "tuple"
  | .dict _ => "dict"
def isiD (T : String) (d : D) : Res D := match kitB (tyD d) T with
  | some b => .ok (.bool b)
  | none => .stk
theorem Sq.ty {K : PySem.W.Frag} (k : Wok R F H w) {v : V} {d : D} (h : Sq R F H v d) : TyX K H v (.type (tyD d)) ∨ ∃ a o kvs, v = .ref a ∧ H a = some (.frz o (.dT kvs)) := by
  cases h with
  | fr h => cases h with
    | non => exact .inl (.base .non)
    | bl b => exact .inl (.base (.bl b))
    | int i => exact .inl (.base (.int i))
    | str x => exact .inl (.base (.str x))
    | lst e h => exact .inl (.base (.lst (k.at e id)))
    | tup e h => exact .inl (.base (.tup (k.at e id)))
    | dK e h => rcases k.sub _ _ e with e | ⟨_, od, e⟩; exact .inl (.base (.dK e)); exact .inl (.fDict e)
    | dT e h => rcases k.sub _ _ e with e | ⟨_, od, e⟩; exact .inl (.base (.dT e)); exact .inr ⟨_, _, _, rfl, e⟩
  | ow e o n => cases o with
    | lst h => exact .inl (.base (.lst e))
    | dK h => exact .inl (.base (.dK e))
    | dT h => exact .inl (.base (.dT e))
def tIsi (K : PySem.W.Frag) (T : String) (ta : TE) : TE := tCB (rIsi K) (tCons ta (tCons (tC (.ty T)) tNil))
/-- a dict with tuple keys is not asked -/
def isiD' (T : String) (d : D) : Res D := match d with
  | .dict _ => .stk
  | d => isiD T d
theorem Sq.ty' {K : PySem.W.Frag} (k : Wok R F H w) {v : V} {d : D} (h : Sq R F H v d) (nd : ∀ x, d ≠ .dict x) : TyX K H v (.type (tyD d)) := by
  cases h with
  | fr h => cases h with
    | non => exact (.base .non)
    | bl b => exact (.base (.bl b))
    | int i => exact (.base (.int i))
    | str x => exact (.base (.str x))
    | lst e h => exact (.base (.lst (k.at e id)))
    | tup e h => exact (.base (.tup (k.at e id)))
    | dK e h => exact (nd _ rfl).elim
    | dT e h => exact (nd _ rfl).elim
  | ow e o n => cases o with
    | lst h => exact (.base (.lst e))
    | dK h => exact (.base (.dK e))
    | dT h => exact (.base (.dT e))
theorem de_isi {T : String} {x2 : Str} {p2 : Pos} (hg : Gl X "isinstance") (hm : X.mg "isinstance" = none) (hb : bootBuiltins "isinstance" = some (.builtin "isinstance")) (hg2 : Gl X x2) (hm2 : X.mg x2 = none) (hb2 : bootBuiltins x2 = some (.type T)) (ha : DQ X R a ta fa)
    (hn2 : x2 ≠ "__name__" := by decide) (hd2 : (x2 == ("__debug__" : Str)) = false := by decide) (s1 : starEach [a, .Name x2 p2] X.env = (false, eval a X.env) :: starEach [.Name x2 p2] X.env := by rfl) (s2 : starEach [.Name x2 p2] X.env = (false, eval (.Name x2 p2) X.env) :: starEach [] X.env := by rfl)
    (hpl : (backTo pos (starEach [.Name x2 p2] X.env)).any (·.1) = false := by rfl) : DE X R (.Call (.Name "isinstance" p) [a, .Name x2 p2] [] pos) (tIsi X.K T ta) (e1 (isiD' T) fa) :=
  ⟨pe_callB call_isi hg hm hb (pa_cons ha.pe (pa_cons (pe_bltn (v := .ty T) hg2 hm2 hb2 rfl hn2 hd2) pa_nil s2) s1) (by decide) (by decide) s1 hpl, fun B η w σ F H S Q p =>
    ha.rf B η w σ F H S _ (p.bind fun d w1 F1 H1 e k p v hv => by
      unfold isiD' at p
      split at p
      · exact p.elim
      · rename_i nd
        unfold isiD at p
        split at p
        · rename_i b hb
          exact ⟨v, .ty T, _, _, b, rfl, .ty T, hv.ty' k nd, kit_ty hb, p.here k _ (.bl _)⟩
        · exact p.elim)⟩
end
end Cw

set_option autoImplicit true
namespace Cw
open PySem PySem.Spec PyProof.Rows L2
section
variable {W : Type} {R : Rsc W} {F H F1 H1 : Hp} {w w1 : W} {X : Cx}

/-! ### what is walked -/
def ItW (R : Rsc W) (F1 : Hp) (G : Hp → Prop) (J : It) (ds : List D) : Prop := ∀ (F H : Hp) (w : W), Sub F1 F → G H → Wok R F H w →
  (∀ (i : Nat) d, ds[i]? = some d → J.go i H ∧ ∀ x H', J.yld i H x H' → ∃ F', Ext R F H F' H' ∧ Wok R F' H' w ∧ Dn F' x d) ∧ ∀ i : Nat, ds.length ≤ i → J.stop i H
def Stay (R : Rsc W) (F1 H1 : Hp) : Hp → Prop := fun H2 => ∀ a o, ¬ R.foot a → F1 a = none ∨ IsFrz o → H1 a = some o → H2 a = some o
abbrev FI (W : Type) := EnvD → W → Res (List D × W)
structure DI (X : Cx) (R : Rsc W) (tg iter : Expr) (wi : TI) (f : FI W) : Prop where
  pi : PI X tg iter wi
  rf : ∀ (B : Bs) (η : EnvD) (w : W) (σ : L2.St) (F H : Hp), StOk R B η w σ F H → ∀ Rr : It → Hp → Prop, Post R F H B.X (f η w) (fun ds F' H' => ds.length ≤ 1000000 → ∀ J, ItW R F' (fun _ => True) J ds → Rr J H') → wi σ H Rr
/-- .. while nothing is changed -/
structure DJ (X : Cx) (R : Rsc W) (tg iter : Expr) (wi : TI) (f : FI W) : Prop where
  pi : PI X tg iter wi
  rf : ∀ (B : Bs) (η : EnvD) (w : W) (σ : L2.St) (F H : Hp), StOk R B η w σ F H → ∀ Rr : It → Hp → Prop, Post R F H B.X (f η w) (fun ds F' H' => ds.length ≤ 1000000 → ∀ J, ItW R F' (Stay R F' H') J ds → Rr J H') → wi σ H Rr
theorem ItW.weak {G G' : Hp → Prop} {J : It} {ds : List D} (h : ItW R F1 G J ds) (i : ∀ H, G' H → G H) : ItW R F1 G' J ds := fun F H w s g k => h F H w s (i H g) k
theorem DI.j {tg iter : Expr} {wi : TI} {f : FI W} (h : DI X R tg iter wi f) : DJ X R tg iter wi f := ⟨h.pi, fun B η w σ F H S Rr p => h.rf B η w σ F H S Rr (p.imp fun ds w' F' H' _ _ _ q hl J hJ => q hl J (hJ.weak fun _ _ => trivial))⟩
theorem pi_or {tg iter : Expr} {a b : TI} (h : PI X tg iter a) (h' : PI X tg iter b) : PI X tg iter (fun σ H Rr => a σ H Rr ∨ b σ H Rr) := ⟨fun pins s σ H Rr I q => q.elim (h.run pins s σ H Rr I) (h'.run pins s σ H Rr I)⟩
def chk (ds : List D) (w : W) : Res (List D × W) := match okLen ds.length with
  | true => .ok (ds, w)
  | false => .stk
def iSeq (f : FE W) : FI W := fun η w => bindM (f η w) fun d w1 => match d with
  | .list xs => chk xs w1
  | .tuple xs => chk xs w1
  | _ => .stk
theorem chk_ok {P : List D → Hp → Hp → Prop} {Xc : String → Prop} {ds : List D} (p : Post R F H Xc (chk ds w) P) : ds.length ≤ 1000000 ∧ Post R F H Xc (.ok (ds, w)) P := by
  unfold chk at p
  split at p
  · rename_i h
    exact ⟨okLen_le h, p⟩
  · exact p.elim
theorem itw_list {K : PySem.W.Frag} {a : Addr} {vs : List V} {ds : List D} {G : Hp → Prop} (hd : DnL F1 vs ds) (h : ∀ (F H : Hp) (w : W), Sub F1 F → G H → Wok R F H w → SqL K H a vs) : ItW R F1 G (Itl K a) ds := fun F H w s g k => by
  have q := h F H w s g k
  refine ⟨fun i d e => ?_, fun i hi => ⟨vs, q, by rw [hd.len]; exact hi⟩⟩
  obtain ⟨v, h1, h2⟩ := hd.get i e
  refine ⟨⟨vs, v, q, h1⟩, fun x H' hy => ?_⟩
  obtain ⟨rfl, f⟩ := hy
  have ex : v = x := Option.some.inj (h1.symm.trans (f _ q))
  subst ex
  exact ⟨F, .refl, k, h2.mono s⟩
theorem itw_tup {K : PySem.W.Frag} {a : Addr} {vs : List V} {ds : List D} {G : Hp → Prop} (hd : DnL F1 vs ds) (h : ∀ (F H : Hp) (w : W), Sub F1 F → G H → Wok R F H w → SqT K H a vs) : ItW R F1 G (Itt K a) ds := fun F H w s g k => by
  have q := h F H w s g k
  refine ⟨fun i d e => ?_, fun i hi => ⟨vs, q, by rw [hd.len]; exact hi⟩⟩
  obtain ⟨v, h1, h2⟩ := hd.get i e
  refine ⟨⟨vs, v, q, h1⟩, fun x H' hy => ?_⟩
  obtain ⟨rfl, f⟩ := hy
  have ex : v = x := Option.some.inj (h1.symm.trans (f _ q))
  subst ex
  exact ⟨F, .refl, k, h2.mono s⟩
variable {tg iter e a b : Expr} {te ta tb : TE} {fe fa fb : FE W} {p pos : Pos}
def iSeqT (K : PySem.W.Frag) (te : TE) : TI := fun σ H Rr => iList K te σ H Rr ∨ iTup K te σ H Rr
theorem di_seq (h : DE X R e te fe) : DI X R tg e (iSeqT X.K te) (iSeq fe) := ⟨pi_or (pi_list h.pe) (pi_tup h.pe), fun B η w σ F H S Rr p => by
  unfold iSeq at p
  have key := h.rf B η w σ F H S
  revert p key
  generalize fe η w = r
  intro p key
  match r, p with
  | .ok (.list xs, w1), p =>
    obtain ⟨hl, p⟩ := chk_ok p
    refine .inl (key _ fun F' H' e k v hv => ?_)
    cases hv with
    | lst hf hd => exact ⟨_, rfl, ⟨_, SqL.of (k.at hf id)⟩, p F' H' e k hl _ (itw_list hd fun F2 H2 w2 s _ k2 => SqL.of (k2.at (s _ _ hf) id))⟩
  | .ok (.tuple xs, w1), p =>
    obtain ⟨hl, p⟩ := chk_ok p
    refine .inr (key _ fun F' H' e k v hv => ?_)
    cases hv with
    | tup hf hd => exact ⟨_, rfl, ⟨_, SqT.of (k.at hf id)⟩, p F' H' e k hl _ (itw_tup hd fun F2 H2 w2 s _ k2 => SqT.of (k2.at (s _ _ hf) id))⟩
  | .ok (.none, w1), p => exact p.elim
  | .ok (.bool _, w1), p => exact p.elim
  | .ok (.int _, w1), p => exact p.elim
  | .ok (.str _, w1), p => exact p.elim
  | .ok (.dict _, w1), p => exact p.elim
  | .exc c, p => exact .inl (key _ p)
  | .stk, p => exact p.elim⟩
/-- a list of a slot, while nothing is changed -/
theorem dj_seq (h : DQ X R e te fe) : DJ X R tg e (iSeqT X.K te) (iSeq fe) := ⟨pi_or (pi_list h.pe) (pi_tup h.pe), fun B η w σ F H S Rr p => by
  unfold iSeq at p
  have key := h.rf B η w σ F H S
  revert p key
  generalize fe η w = r
  intro p key
  match r, p with
  | .ok (.list xs, w1), p =>
    obtain ⟨hl, p⟩ := chk_ok p
    refine .inl (key _ fun F' H' e k v hv => ?_)
    cases hv with
    | fr hv => cases hv with
      | lst hf hd => exact ⟨_, rfl, ⟨_, SqL.of (k.at hf id)⟩, p F' H' e k hl _ (itw_list hd fun F2 H2 w2 s _ k2 => SqL.of (k2.at (s _ _ hf) id))⟩
    | ow hh ho hn => cases ho with
      | lst hd => exact ⟨_, rfl, ⟨_, SqL.of hh⟩, p F' H' e k hl _ (itw_list hd fun F2 H2 w2 s st k2 => SqL.of (st _ _ hn.1 (.inl hn.2) hh))⟩
  | .ok (.tuple xs, w1), p =>
    obtain ⟨hl, p⟩ := chk_ok p
    refine .inr (key _ fun F' H' e k v hv => ?_)
    obtain ⟨q, vs, rfl, hf, hh, hd⟩ := hv.tup k
    exact ⟨_, rfl, ⟨_, SqT.of hh⟩, p F' H' e k hl _ (itw_tup hd fun F2 H2 w2 s _ k2 => SqT.of (k2.at (s _ _ hf) id))⟩
  | .ok (.none, w1), p => exact p.elim
  | .ok (.bool _, w1), p => exact p.elim
  | .ok (.int _, w1), p => exact p.elim
  | .ok (.str _, w1), p => exact p.elim
  | .ok (.dict _, w1), p => exact p.elim
  | .exc c, p => exact .inl (key _ p)
  | .stk, p => exact p.elim⟩
/-- range -/
theorem rgD_length (a b : Int) : (rgD a b).length = (b - a).toNat := by simp [rgD]
theorem rgD_get {a b : Int} {i : Nat} {d : D} (h : (rgD a b)[i]? = some d) : i < (b - a).toNat ∧ d = .int (a + (i : Nat)) := by
  unfold rgD at h
  rw [List.getElem?_map] at h
  cases z : (List.range (b - a).toNat)[i]? with
  | none => rw [z] at h; cases h
  | some j =>
    rw [z] at h
    obtain ⟨h1, h2⟩ := List.getElem?_eq_some_iff.mp z
    simp at h1 h2
    subst h2
    exact ⟨by omega, (Option.some.inj h).symm⟩
theorem itw_rng {a b : Int} {n : Nat} (hn : (b - a).toNat = n) : ItW R F1 (fun _ => True) (Itr a n) (rgD a b) := fun F H w s g k => by
  subst hn
  refine ⟨fun i d e => ?_, fun i hi => by rw [rgD_length] at hi; exact hi⟩
  obtain ⟨h1, rfl⟩ := rgD_get e
  exact ⟨h1, fun x H' hy => by obtain ⟨rfl, rfl⟩ := hy; exact ⟨F, .refl, k, .int _⟩⟩
def iRg1 (fs : FA W) : FI W := fun η w => bindM (fs η w) fun ds w1 => match ds with
  | [.int j] => match decide (j ≤ 1000000) && decide (-1000000 ≤ j) with
    | true => .ok (rgD 0 j, w1)
    | false => .stk
  | _ => .stk
def iRg2 (fs : FA W) : FI W := fun η w => bindM (fs η w) fun ds w1 => match ds with
  | [.int i, .int j] => match decide (j ≤ 500000) && decide (-500000 ≤ j) && decide (-500000 ≤ i) && decide (i ≤ 500000) with
    | true => .ok (rgD i j, w1)
    | false => .stk
  | _ => .stk
variable {tA : TA} {fs : FA W}
theorem di_range1 (hg : Gl X "range") (hm : X.mg "range" = none) (ha : DB X R [a] tA fs) (hs : starEach [a] X.env = [(false, eval a X.env)] := by rfl) : DI X R tg (.Call (.Name "range" p) [a] [] pos) (iRng1 tA) (iRg1 fs) := ⟨pi_range1 hg hm ha.pa hs, fun B η w σ F H S Rr p =>
  ha.rf B η w σ F H S _ (p.bind fun ds w1 F1 H1 e k p vs hvs => by
    split at p
    · split at p
      · rename_i j _ h
        simp only [Bool.and_eq_true, decide_eq_true_eq] at h
        obtain ⟨v, rfl, hv⟩ := hvs.one
        exact ⟨j, by rw [hv.int], by omega, by omega, p.here k (by rw [rgD_length]; omega) _ (itw_rng (by omega))⟩
      · exact p.elim
    · exact p.elim)⟩
theorem di_range2 (hg : Gl X "range") (hm : X.mg "range" = none) (ha : DB X R [a, b] tA fs) (hs : starEach [a, b] X.env = [(false, eval a X.env), (false, eval b X.env)] := by rfl) (hs2 : starEach [b] X.env = [(false, eval b X.env)] := by rfl) : DI X R tg (.Call (.Name "range" p) [a, b] [] pos) (iRng2 tA) (iRg2 fs) := ⟨pi_range2 hg hm ha.pa hs hs2, fun B η w σ F H S Rr p =>
  ha.rf B η w σ F H S _ (p.bind fun ds w1 F1 H1 e k p vs hvs => by
    split at p
    · split at p
      · rename_i i j _ h
        simp only [Bool.and_eq_true, decide_eq_true_eq] at h
        obtain ⟨v, u, rfl, hv, hu⟩ := hvs.two
        exact ⟨i, j, by rw [hv.int, hu.int], ⟨by omega, by omega, by omega, by omega⟩, p.here k (by rw [rgD_length]; omega) _ (itw_rng rfl)⟩
      · exact p.elim
    · exact p.elim)⟩
/-- enumerate of a list -/
def enumL : Int → List D → List D
  | _, [] => []
  | i, d :: r => .tuple [.int i, d] :: enumL (i + 1) r
theorem enumL_len : ∀ (ds : List D) (i : Int), (enumL i ds).length = ds.length
  | [], _ => rfl
  | _ :: r, i => by simp [enumL, enumL_len r]
theorem enumL_get : ∀ (ds : List D) (i : Int) (j : Nat) (x : D), (enumL i ds)[j]? = some x → ∃ d, ds[j]? = some d ∧ x = .tuple [.int (i + (j : Nat)), d]
  | [], _, _, _, h => by simp [enumL] at h
  | d :: r, i, 0, x, h => by
    simp [enumL] at h
    exact ⟨d, rfl, by rw [← h]; simp⟩
  | d :: r, i, j + 1, x, h => by
    obtain ⟨d', h1, h2⟩ := enumL_get r (i + 1) j x (by simpa [enumL] using h)
    exact ⟨d', by simpa using h1, by rw [h2, show (i + 1 + ((j : Nat) : Int)) = i + ((j + 1 : Nat) : Int) by omega]⟩
/-- a pair in each turn -/
theorem Dn.pair {T : Addr} {x y : V} {c d : D} (n : F T = none) (hx : Dn F x c) (hy : Dn F y d) : Dn (upd F T (.tup [x, y])) (.ref T) (.tuple [c, d]) :=
  have m : Sub F (upd F T (.tup [x, y])) := fun a u h => by rw [upd_ne (ne_of_none h n)]; exact h
  .tup upd_same (.cons (hx.mono m) (.cons (hy.mono m) .nil))
theorem itw_enum {K : PySem.W.Frag} {a : Addr} {vs : List V} {ds : List D} {G : Hp → Prop} (hd : DnL F1 vs ds) (h : ∀ (F H : Hp) (w : W), Sub F1 F → G H → Wok R F H w → SqL K H a vs) : ItW R F1 G (Ite K a) (enumL 0 ds) := fun F H w s g k => by
  have q := h F H w s g k
  refine ⟨fun i d e => ?_, fun i hi => ⟨vs, q, by rw [hd.len, ← enumL_len ds 0]; exact hi⟩⟩
  obtain ⟨d', e1, rfl⟩ := enumL_get _ _ _ _ e
  obtain ⟨v, h1, h2⟩ := hd.get i e1
  refine ⟨⟨vs, v, q, h1⟩, fun x H' hy => ?_⟩
  obtain ⟨T, x', rfl, hT, rfl, f⟩ := hy
  have ex : v = x' := Option.some.inj (h1.symm.trans (f _ q))
  subst ex
  refine ⟨_, Ext.new k hT, k.new hT, ?_⟩
  rw [show (0 : Int) + (i : Nat) = (i : Nat) by omega]
  exact Dn.pair (k.Fnone hT) (.int _) (h2.mono s)
def iEnumF (fs : FA W) : FI W := fun η w => bindM (fs η w) fun ds w1 => match ds with
  | [.list xs] => match okLen xs.length with
    | true => .ok (enumL 0 xs, w1)
    | false => .stk
  | _ => .stk
variable {elts : List Expr} {kk : Nat} {tpos : Pos}
theorem di_enum (hg : Gl X "enumerate") (hm : X.mg "enumerate" = none) (ha : DA X R [e] tA fs) (hs : starEach [e] X.env = [(false, eval e X.env)] := by rfl) : DI X R (.Tuple elts kk tpos) (.Call (.Name "enumerate" p) [e] [] pos) (iEnum X.K tA) (iEnumF fs) := ⟨pi_enum hg hm ha.pa hs, fun B η w σ F H S Rr p =>
  ha.rf B η w σ F H S _ (p.bind fun ds w1 F1 H1 e k p vs hvs => by
    split at p
    · split at p
      · rename_i hl
        cases hvs with
        | cons hv ht => cases ht; cases hv with
          | lst hf hd => exact ⟨_, _, rfl, SqL.of (k.at hf id), p.here k (by rw [enumL_len]; exact okLen_le hl) _ (itw_enum hd fun F2 H2 w2 s _ k2 => SqL.of (k2.at (s _ _ hf) id))⟩
      · exact p.elim
    · exact p.elim)⟩
/-- zip of two lists, of two tuples -/
def zipL : List D → List D → List D
  | d :: r, d' :: r' => .tuple [d, d'] :: zipL r r'
  | _, _ => []
theorem zipL_len : ∀ (xs ys : List D), (zipL xs ys).length = min xs.length ys.length
  | [], _ => by simp [zipL]
  | _ :: _, [] => by simp [zipL]
  | _ :: r, _ :: r' => by simp [zipL, zipL_len r r']
theorem zipL_get : ∀ (xs ys : List D) (j : Nat) (x : D), (zipL xs ys)[j]? = some x → ∃ c d, xs[j]? = some c ∧ ys[j]? = some d ∧ x = .tuple [c, d]
  | [], _, _, _, h => by simp [zipL] at h
  | _ :: _, [], _, _, h => by simp [zipL] at h
  | c :: r, d :: r', 0, x, h => by
    simp [zipL] at h
    exact ⟨c, d, rfl, rfl, h.symm⟩
  | c :: r, d :: r', j + 1, x, h => by
    obtain ⟨c', d', h1, h2, h3⟩ := zipL_get r r' j x (by simpa [zipL] using h)
    exact ⟨c', d', by simpa using h1, by simpa using h2, h3⟩
theorem itw_zipL {K : PySem.W.Frag} {a b : Addr} {vs us : List V} {ds es : List D} {G : Hp → Prop} (hd : DnL F1 vs ds) (he : DnL F1 us es) (h : ∀ (F H : Hp) (w : W), Sub F1 F → G H → Wok R F H w → SqL K H a vs ∧ SqL K H b us) : ItW R F1 G (Itz K a b) (zipL ds es) := fun F H w s g k => by
  obtain ⟨q, q'⟩ := h F H w s g k
  refine ⟨fun i d e => ?_, fun i hi => ⟨vs, us, q, q', by rw [hd.len, he.len]; rw [zipL_len] at hi; omega⟩⟩
  obtain ⟨c, d', e1, e2, rfl⟩ := zipL_get _ _ _ _ e
  obtain ⟨v, h1, h2⟩ := hd.get i e1
  obtain ⟨u, h3, h4⟩ := he.get i e2
  refine ⟨⟨vs, us, v, u, q, q', h1, h3⟩, fun x H' hy => ?_⟩
  obtain ⟨T, x', y', rfl, hT, rfl, f, f'⟩ := hy
  have ex : v = x' := Option.some.inj (h1.symm.trans (f _ q))
  have ey : u = y' := Option.some.inj (h3.symm.trans (f' _ q'))
  subst ex ey
  exact ⟨_, Ext.new k hT, k.new hT, Dn.pair (k.Fnone hT) (h2.mono s) (h4.mono s)⟩
theorem itw_zipT {K : PySem.W.Frag} {a b : Addr} {vs us : List V} {ds es : List D} {G : Hp → Prop} (hd : DnL F1 vs ds) (he : DnL F1 us es) (h : ∀ (F H : Hp) (w : W), Sub F1 F → G H → Wok R F H w → SqT K H a vs ∧ SqT K H b us) : ItW R F1 G (RZ.ItzT K a b) (zipL ds es) := fun F H w s g k => by
  obtain ⟨q, q'⟩ := h F H w s g k
  refine ⟨fun i d e => ?_, fun i hi => ⟨vs, us, q, q', by rw [hd.len, he.len]; rw [zipL_len] at hi; omega⟩⟩
  obtain ⟨c, d', e1, e2, rfl⟩ := zipL_get _ _ _ _ e
  obtain ⟨v, h1, h2⟩ := hd.get i e1
  obtain ⟨u, h3, h4⟩ := he.get i e2
  refine ⟨⟨vs, us, v, u, q, q', h1, h3⟩, fun x H' hy => ?_⟩
  obtain ⟨T, x', y', rfl, hT, rfl, f, f'⟩ := hy
  have ex : v = x' := Option.some.inj (h1.symm.trans (f _ q))
  have ey : u = y' := Option.some.inj (h3.symm.trans (f' _ q'))
  subst ex ey
  exact ⟨_, Ext.new k hT, k.new hT, Dn.pair (k.Fnone hT) (h2.mono s) (h4.mono s)⟩
def iZipF (fs : FA W) : FI W := fun η w => bindM (fs η w) fun ds w1 => match ds with
  | [.list xs, .list ys] => match okLen xs.length with
    | true => .ok (zipL xs ys, w1)
    | false => .stk
  | [.tuple xs, .tuple ys] => match okLen xs.length with
    | true => .ok (zipL xs ys, w1)
    | false => .stk
  | _ => .stk
theorem di_zip (hg : Gl X "zip") (hm : X.mg "zip" = none) (ha : DA X R [a, b] tA fs) (hs : starEach [a, b] X.env = (false, eval a X.env) :: starEach [b] X.env := by rfl) (hpl : (backTo pos (starEach [b] X.env)).any (·.1) = false := by rfl) :
    DI X R (.Tuple elts kk tpos) (.Call (.Name "zip" p) [a, b] [] pos) (RZ.iZipA X.K tA) (iZipF fs) := ⟨RZ.pi_zipA hg hm ha.pa hs hpl, fun B η w σ F H S Rr p =>
  ha.rf B η w σ F H S _ (p.bind fun ds w1 F1 H1 e k p vs hvs => by
    split at p
    · split at p
      · rename_i hl
        cases hvs with
        | cons hv ht => cases ht with
          | cons hu ht => cases ht; cases hv with
            | lst hf hd => cases hu with
              | lst hf' hd' => exact ⟨_, _, _, _, rfl, .inl ⟨SqL.of (k.at hf id), SqL.of (k.at hf' id), p.here k (by rw [zipL_len]; have := okLen_le hl; omega) _ (itw_zipL hd hd' fun F2 H2 w2 s _ k2 => ⟨SqL.of (k2.at (s _ _ hf) id), SqL.of (k2.at (s _ _ hf') id)⟩)⟩⟩
      · exact p.elim
    · split at p
      · rename_i hl
        cases hvs with
        | cons hv ht => cases ht with
          | cons hu ht => cases ht; cases hv with
            | tup hf hd => cases hu with
              | tup hf' hd' => exact ⟨_, _, _, _, rfl, .inr ⟨SqT.of (k.at hf id), SqT.of (k.at hf' id), p.here k (by rw [zipL_len]; have := okLen_le hl; omega) _ (itw_zipT hd hd' fun F2 H2 w2 s _ k2 => ⟨SqT.of (k2.at (s _ _ hf) id), SqT.of (k2.at (s _ _ hf') id)⟩)⟩⟩
      · exact p.elim
    · exact p.elim)⟩

/-! ### targets -/
abbrev TgF (W : Type) := D → EnvD → W → Res (EnvD × W)
abbrev TgFs (W : Type) := List D → EnvD → W → Res (EnvD × W)
def PostG (R : Rsc W) (B : Bs) (F : Hp) (r : Res (EnvD × W)) (P : L2.St → Hp → Prop) : Prop := match r with
  | .ok (η1, w1) => ∀ σ1 F1 H1, StOk R B η1 w1 σ1 F1 H1 → Sub F F1 → P σ1 H1
  | .exc c => B.X c
  | .stk => False
structure DG (X : Cx) (R : Rsc W) (tg : Expr) (t : TG) (f : TgF W) : Prop where
  pg : PG X tg t
  rf : ∀ (B : Bs) (η : EnvD) (w : W) (σ : L2.St) (F H : Hp) (v : V) (d : D) (P : L2.St → Hp → Prop), StOk R B η w σ F H → Dn F v d → PostG R B F (f d η w) P → t v σ H P
structure DGs (X : Cx) (R : Rsc W) (tgs : List Expr) (t : TGs) (f : TgFs W) : Prop where
  pg : PGs X tgs t
  rf : ∀ (B : Bs) (η : EnvD) (w : W) (σ : L2.St) (F H : Hp) (vs : List V) (ds : List D) (P : L2.St → Hp → Prop), StOk R B η w σ F H → DnL F vs ds → PostG R B F (f ds η w) P → t vs σ H P
def tgN (i : Nat) : TgF W := fun d η w => .ok (η.set i (.fr d), w)
def tgT (f : TgFs W) : TgF W := fun d η w => match d with
  | .tuple ds => f ds η w
  | _ => .stk
def tgNil : TgFs W := fun ds η w => match ds with
  | [] => .ok (η, w)
  | _ => .stk
def tgCons (f : TgF W) (g : TgFs W) : TgFs W := fun ds η w => match ds with
  | d :: r => bindM (f d η w) fun η1 w1 => g r η1 w1
  | [] => .stk
theorem dg_name {i : Nat} {x : Str} (hN : X.N.Nodup) (hi : X.N[i]? = some x) (hx : Loc X.env.scope x) (hf : X.fn x = true ∨ X.env.scope.names.lookup x = some .local := by first | exact .inl rfl | exact .inr rfl | assumption) : DG X R (.Name x pos) (gName i) (tgN i : TgF W) :=
  ⟨pg_name hN hi hx hf, fun B η w σ F H v d P S hv p => p _ F H (S.setFr i hv) (Sub.refl F)⟩
theorem dgs_nil : DGs X R [] gNil (tgNil : TgFs W) := ⟨pgs_nil, fun B η w σ F H vs ds P S hv p => by
  cases hv with
  | nil => exact ⟨rfl, p σ F H S (Sub.refl F)⟩
  | cons _ _ => exact p.elim⟩
theorem dgs_cons {e : Expr} {es : List Expr} {t : TG} {u : TGs} {f : TgF W} {g : TgFs W} (h1 : DG X R e t f) (h2 : DGs X R es u g) (hs : (assignEach (e :: es) X.env).map (·.2) = assign e X.env :: (assignEach es X.env).map (·.2) := by rfl) : DGs X R (e :: es) (gCons t u) (tgCons f g) :=
  ⟨pgs_cons h1.pg h2.pg hs, fun B η w σ F H vs ds P S hv p => by
    cases hv with
    | nil => exact p.elim
    | cons hv ht =>
      refine ⟨_, _, rfl, h1.rf B η w σ F H _ _ _ S hv ?_⟩
      unfold tgCons at p
      dsimp only at p
      revert p
      generalize f _ η w = r
      intro p
      match r, p with
      | .ok (η1, w1), p =>
        intro σ1 F1 H1 S1 sb
        refine h2.rf B η1 w1 σ1 F1 H1 _ _ _ S1 (ht.mono sb) ?_
        have p' : PostG R B F (g _ η1 w1) P := p
        revert p'
        generalize g _ η1 w1 = r2
        intro p'
        match r2, p' with
        | .ok (η2, w2), p' => exact fun σ2 F2 H2 S2 sb2 => p' σ2 F2 H2 S2 (sb.trans sb2)
        | .exc c, p' => exact p'
        | .stk, p' => exact p'
      | .exc c, p => exact p
      | .stk, p => exact p⟩
/-- a target of n takes n -/
def TLen (g : TgFs W) (n : Nat) : Prop := ∀ ds η w, ds.length ≠ n → g ds η w = .stk ∨ ∃ c, g ds η w = .exc c
theorem tl_nil : TLen (tgNil : TgFs W) 0 := fun ds η w h => by
  cases ds with
  | nil => exact (h rfl).elim
  | cons _ _ => exact .inl rfl
theorem tl_cons {f : TgF W} {g : TgFs W} {n : Nat} (h : TLen g n) : TLen (tgCons f g) (n + 1) := fun ds η w q => by
  cases ds with
  | nil => exact .inl rfl
  | cons d r =>
    have q' : r.length ≠ n := fun e => q (by simp [e])
    show bindM (f d η w) (fun η1 w1 => g r η1 w1) = .stk ∨ ∃ c, bindM (f d η w) (fun η1 w1 => g r η1 w1) = .exc c
    cases z : f d η w with
    | ok a => exact h r a.1 a.2 q'
    | exc c => exact .inr ⟨c, rfl⟩
    | stk => exact .inl rfl
theorem dg_tup {es : List Expr} {k : Nat} {t : TGs} {g : TgFs W} {n : Nat} (hc : X.calm = true) (h : DGs X R es t g) (hlen : TLen g n) (nx : ∀ ds η w c, ds.length ≠ n → g ds η w ≠ .exc c)
    (hn : (assignEach es X.env).length = n := by rfl) (hst : (assignEach es X.env).findIdx? (·.1) = none := by rfl) : DG X R (.Tuple es k pos) (gTup X.K n t) (tgT g) := ⟨pg_tup hc h.pg hn hst, fun B η w σ F H v d P S hv p => by
  unfold tgT at p
  split at p
  · rename_i ds
    cases hv with
    | tup hf hd =>
      refine ⟨_, _, rfl, SqT.of (S.wok.at hf id), ?_, h.rf B η w σ F H _ _ P S hd p⟩
      rw [hd.len]
      refine Classical.byContradiction fun z => ?_
      rcases hlen _ η w z with q | ⟨c, q⟩
      · rw [q] at p; exact p
      · exact nx _ _ _ _ z q
  · exact p.elim⟩
end
end Cw

set_option autoImplicit true
namespace Cw
open PySem PySem.Spec PyProof.Rows L2
section
variable {W : Type} {R : Rsc W} {F H F1 H1 : Hp} {w w1 : W} {X : Cx} {B : Bs} {η : EnvD} {σ : L2.St}

/-! ### for -/
def forL (tg : TgF W) (g : FS W) : List D → FS W
  | [] => fun η w => .ok (.nx η, w)
  | d :: r => fun η w => bindM (tg d η w) fun η1 w1 => bindM (g η1 w1) fun o w2 => match o with
    | .nx η' => forL tg g r η' w2
    | .ct η' => forL tg g r η' w2
    | .bk η' => .ok (.nx η', w2)
    | .rt d => .ok (.rt d, w2)
def sFor (fi : FI W) (tg : TgF W) (g : FS W) : FS W := fun η w => bindM (fi η w) fun ds w1 => forL tg g ds η w1
/-- a base in which more is frozen -/
def rebase (B : Bs) (F : Hp) : Bs := ⟨F, B.H, B.X⟩
theorem StOk.rebase (S : StOk R B η w σ F H) : StOk R (Cw.rebase B F) η w σ F H :=
  { S with ext := ⟨Sub.refl F, fun n q h => S.ext.keep n (q.imp (fun q => by
      show B.F _ = none
      cases z : B.F _ with
      | none => rfl
      | some u =>
        have y := S.ext.mono _ _ z
        rw [show F _ = none from q] at y
        cases y) id) h, fun _ _ _ h => h⟩ }
theorem ext_unbase {F0 : Hp} (e0 : Ext R B.F B.H F0 H) (e : Ext R F0 B.H F1 H1) : Ext R B.F B.H F1 H1 :=
  ⟨e0.mono.trans e.mono, fun {c o} n q h => e.keep n (by
      by_cases z : IsFrz o
      · exact .inr z
      · exact q.imp (fun q => e0.fresh n z h q) (fun q => q)) h, fun n z h h' => e.fresh n z h (e0.fresh n z h h')⟩
theorem StOk.unbase {F0 : Hp} {η1 : EnvD} {σ1 : L2.St} (S : StOk R B η w σ F0 H) (S1 : StOk R (Cw.rebase B F0) η1 w1 σ1 F1 H1) : StOk R B η1 w1 σ1 F1 H1 := { S1 with ext := ext_unbase S.ext S1.ext }
theorem PostS.rebase {r : Res (Out × W)} {Dd : Ends} (S : StOk R B η w σ F H) (p : PostS R B r Dd) : PostS R (Cw.rebase B F) r Dd := by
  match r, p with
  | .ok (.nx η', w'), p => exact fun σ' F' H' S' => p σ' F' H' (S.unbase S')
  | .ok (.rt d, w'), p => exact fun v F' H' e o h => p v F' H' (ext_unbase S.ext e) o h
  | .ok (.bk η', w'), p => exact fun σ' F' H' S' => p σ' F' H' (S.unbase S')
  | .ok (.ct η', w'), p => exact fun σ' F' H' S' => p σ' F' H' (S.unbase S')
  | .exc c, p => exact p
  | .stk, p => exact p
theorem ref_for {wi : TI} {g : TG} {tb : TS} {fi : FI W} {tgf : TgF W} {gb : FS W}
    (hi : ∀ (B : Bs) (η : EnvD) (w : W) (σ : L2.St) (F H : Hp), StOk R B η w σ F H → ∀ Rr : It → Hp → Prop, Post R F H B.X (fi η w) (fun ds F' H' => ds.length ≤ 1000000 → ∀ J, ItW R F' (fun _ => True) J ds → Rr J H') → wi σ H Rr)
    (hg : ∀ (B : Bs) (η : EnvD) (w : W) (σ : L2.St) (F H : Hp) (v : V) (d : D) (P : L2.St → Hp → Prop), StOk R B η w σ F H → Dn F v d → PostG R B F (tgf d η w) P → g v σ H P)
    (hb : RefS R tb gb) : RefS R (tFor wi g tb) (sFor fi tgf gb) := fun B η w σ F H S Dd p => by
  refine hi B η w σ F H S _ (p.bind S fun ds w1 F1 H1 S1 e p _ J hJ => ?_)
  have p1 := p.rebase S1
  have S2 := S1.rebase
  revert p1 S2
  generalize rebase B F1 = B'
  intro p1 S2
  refine ⟨fun i m σ H => ∃ η w F, StOk R B' η w σ F H ∧ Sub F1 F ∧ i ≤ ds.length ∧ m = ds.length - i ∧ PostS R B' (forL tgf gb (ds.drop i) η w) Dd, ⟨_, η, w1, F1, S2, Sub.refl F1, Nat.zero_le _, rfl, p1⟩, fun i m σ H hW => ?_⟩
  obtain ⟨η, w, F, S, sb, hle, hm, q⟩ := hW
  obtain ⟨hgo, hst⟩ := hJ F H w sb trivial S.wok
  by_cases hi : i < ds.length
  · right
    obtain ⟨h1, h2⟩ := hgo i _ (List.getElem?_eq_getElem hi)
    refine ⟨h1, fun σ' H' => ∃ η' w' F', StOk R B' η' w' σ' F' H' ∧ Sub F1 F' ∧ PostS R B' (forL tgf gb (ds.drop (i + 1)) η' w') Dd, fun σ' H' hN => ?_, fun x H' hy => ?_⟩
    · obtain ⟨η', w', F', S', sb', q'⟩ := hN
      exact ⟨ds.length - (i + 1), by omega, η', w', F', S', sb', hi, rfl, q'⟩
    · obtain ⟨F', e', k', hx⟩ := h2 x H' hy
      have S' := S.go e' k'
      rw [List.drop_eq_getElem_cons hi] at q
      refine hg B' η w σ F' H' x _ _ S' hx ?_
      unfold forL at q
      revert q
      generalize tgf ds[i] η w = r
      intro q
      match r, q with
      | .ok (η1, w1), q =>
        intro σ1 F2 H2 S2 sb2
        have S3 := S2.rebase
        refine hb _ η1 w1 σ1 F2 H2 S3 _ ?_
        have q' : PostS R B' (bindM (gb η1 w1) fun o w2 => match o with
          | .nx η' => forL tgf gb (ds.drop (i + 1)) η' w2
          | .ct η' => forL tgf gb (ds.drop (i + 1)) η' w2
          | .bk η' => .ok (.nx η', w2)
          | .rt d => .ok (.rt d, w2)) Dd := q
        revert q'
        generalize gb η1 w1 = r2
        intro q'
        have sb3 : Sub F1 F2 := (sb.trans e'.mono).trans sb2
        match r2, q' with
        | .ok (.nx η', w2), q' => exact fun σ' F' H' S' => ⟨η', w2, F', S2.unbase S', sb3.trans S'.ext.mono, q'⟩
        | .ok (.ct η', w2), q' => exact fun σ' F' H' S' => ⟨η', w2, F', S2.unbase S', sb3.trans S'.ext.mono, q'⟩
        | .ok (.bk η', w2), q' => exact fun σ' F' H' S' => q' σ' F' H' (S2.unbase S')
        | .ok (.rt d, w2), q' => exact fun v F' H' e o h => q' v F' H' (ext_unbase S2.ext e) o h
        | .exc c, q' => exact q'
        | .stk, q' => exact q'
      | .exc c, q => exact q
      | .stk, q => exact q
  · left
    have ei : i = ds.length := by omega
    refine ⟨hst i (by omega), ?_⟩
    rw [ei, List.drop_length] at q
    exact q σ F H S
variable {tg iter e : Expr} {body : List Stmt} {wi : TI} {g : TG} {tb : TS} {fi : FI W} {tgf : TgF W} {gb : FS W} {pos p : Pos} {te : TE} {fe : FE W}
theorem ds_for (hp : PassesOwn (model X.prog X.w) X.A X.env X.xe) (hc : X.calm = true) (hi : DI X R tg iter wi fi) (hg : DG X R tg g tgf) (hb : DSs X R body tb gb) (hs : ∀ x, foldedSetIterable iter X.env x = pure x := by intro _; rfl) : DS X R (.For tg iter body [] pos) (tFor wi g tb) (sFor fi tgf gb) :=
  ⟨ps_for hp hc hi.pi hg.pg hb.ps hs, ref_for hi.rf hg.rf hb.rf⟩

/-! ### list comprehensions -/
/-- targets that are names alone, at the slots sl -/
structure DGn (X : Cx) (R : Rsc W) (tg : Expr) (t : TG) (f : TgF W) (sl : List Nat) : Prop where
  pg : PG X tg t
  rf : ∀ (B : Bs) (η : EnvD) (w : W) (σ : L2.St) (F H : Hp) (v : V) (d : D) (P : L2.St → Hp → Prop), StOk R B η w σ F H → Dn F v d → (match f d η w with
    | .ok (η1, w1) => w1 = w → ∀ σ1, StOk R B η1 w σ1 F H → (∀ vs, (∀ i ∈ sl, i ∈ vs) → wipe σ1 vs = wipe σ vs) → P σ1 H
    | _ => False) → t v σ H P
structure DGns (X : Cx) (R : Rsc W) (tgs : List Expr) (t : TGs) (f : TgFs W) (sl : List Nat) : Prop where
  pg : PGs X tgs t
  rf : ∀ (B : Bs) (η : EnvD) (w : W) (σ : L2.St) (F H : Hp) (vs : List V) (ds : List D) (P : L2.St → Hp → Prop), StOk R B η w σ F H → DnL F vs ds → (match f ds η w with
    | .ok (η1, w1) => w1 = w → ∀ σ1, StOk R B η1 w σ1 F H → (∀ vs, (∀ i ∈ sl, i ∈ vs) → wipe σ1 vs = wipe σ vs) → P σ1 H
    | _ => False) → t vs σ H P
theorem set_set_comm {α : Type} {l : List α} {i j : Nat} {a b : α} (h : i ≠ j) : (l.set i a).set j b = (l.set j b).set i a := List.set_comm _ _ h
theorem wipe_set {i : Nat} {x : Option V} : ∀ {vs : List Nat} {σ : L2.St}, i ∈ vs → wipe (σ.set i x) vs = wipe σ vs
  | v :: vs, σ, h => by
    show (wipe (σ.set i x) vs).set v none = (wipe σ vs).set v none
    by_cases hv : i ∈ vs
    · rw [wipe_set hv]
    · have e : i = v := by
        rcases List.mem_cons.mp h with h | h
        · exact h
        · exact (hv h).elim
      subst e
      have out : ∀ (us : List Nat) (τ : L2.St), i ∉ us → wipe (τ.set i x) us = (wipe τ us).set i x := by
        intro us
        induction us with
        | nil => intro τ _; rfl
        | cons u us ih =>
          intro τ hu
          have h1 : i ≠ u := fun z => hu (by rw [z]; exact List.mem_cons_self)
          have h2 : i ∉ us := fun z => hu (List.mem_cons_of_mem _ z)
          show (wipe (τ.set i x) us).set u none = ((wipe τ us).set u none).set i x
          rw [ih τ h2, List.set_comm _ _ h1]
      rw [out vs σ hv, List.set_set]
theorem wipe_wipe : ∀ (vs us : List Nat) (σ : L2.St), (∀ i ∈ us, i ∈ vs) → wipe (wipe σ us) vs = wipe σ vs
  | vs, [], σ, _ => rfl
  | vs, u :: us, σ, h => by
    show wipe ((wipe σ us).set u none) vs = wipe σ vs
    rw [wipe_set (h u List.mem_cons_self), wipe_wipe vs us σ fun i hi => h i (List.mem_cons_of_mem _ hi)]
theorem dgn_name {i : Nat} {x : Str} (hN : X.N.Nodup) (hi : X.N[i]? = some x) (hx : Loc X.env.scope x) (hf : X.fn x = true ∨ X.env.scope.names.lookup x = some .local := by first | exact .inl rfl | exact .inr rfl | assumption) : DGn X R (.Name x pos) (gName i) (tgN i : TgF W) [i] :=
  ⟨pg_name hN hi hx hf, fun B η w σ F H v d P S hv p => p rfl _ (S.setFr i hv) fun vs h => wipe_set (h i List.mem_cons_self)⟩
theorem dgns_nil : DGns X R [] gNil (tgNil : TgFs W) [] := ⟨pgs_nil, fun B η w σ F H vs ds P S hv p => by
  cases hv with
  | nil => exact ⟨rfl, p rfl σ S fun _ _ => rfl⟩
  | cons _ _ => exact p.elim⟩
theorem dgns_cons {e : Expr} {es : List Expr} {t : TG} {u : TGs} {f : TgF W} {g : TgFs W} {sl sl' : List Nat} (h1 : DGn X R e t f sl) (h2 : DGns X R es u g sl') (hs : (assignEach (e :: es) X.env).map (·.2) = assign e X.env :: (assignEach es X.env).map (·.2) := by rfl) : DGns X R (e :: es) (gCons t u) (tgCons f g) (sl ++ sl') :=
  ⟨pgs_cons h1.pg h2.pg hs, fun B η w σ F H vs ds P S hv p => by
    cases hv with
    | nil => exact p.elim
    | cons hv ht =>
      refine ⟨_, _, rfl, h1.rf B η w σ F H _ _ _ S hv ?_⟩
      unfold tgCons at p
      dsimp only at p
      revert p
      generalize f _ η w = r
      intro p
      match r, p with
      | .ok (η1, w1), p =>
        rintro rfl σ1 S1 hw1
        refine h2.rf B η1 w1 σ1 F H _ _ _ S1 ht ?_
        simp only [bindM] at p
        revert p
        generalize g _ η1 w1 = r2
        intro p'
        match r2, p' with
        | .ok (η2, w2), p' => exact fun e2 σ2 S2 hw2 => p' e2 σ2 S2 fun vs h => (hw2 vs fun i hi => h i (List.mem_append_right _ hi)).trans (hw1 vs fun i hi => h i (List.mem_append_left _ hi))
        | .exc c, p' => exact p'
        | .stk, p' => exact p'
      | .exc c, p => exact p
      | .stk, p => exact p⟩
theorem dgn_tup {es : List Expr} {k : Nat} {t : TGs} {g : TgFs W} {n : Nat} {sl : List Nat} (hc : X.calm = true) (h : DGns X R es t g sl) (hlen : TLen g n)
    (hn : (assignEach es X.env).length = n := by rfl) (hst : (assignEach es X.env).findIdx? (·.1) = none := by rfl) : DGn X R (.Tuple es k pos) (gTup X.K n t) (tgT g) sl := ⟨pg_tup hc h.pg hn hst, fun B η w σ F H v d P S hv p => by
  cases d with
  | tuple ds =>
    cases hv with
    | tup hf hd =>
      refine ⟨_, _, rfl, SqT.of (S.wok.at hf id), ?_, h.rf B η w σ F H _ _ P S hd p⟩
      rw [hd.len]
      refine Classical.byContradiction fun z => ?_
      revert p
      show (match g ds η w with | .ok (η1, w1) => _ | _ => False) → False
      rcases hlen _ η w z with q | ⟨c, q⟩ <;> rw [q] <;> exact fun p => p
  | _ => exact p.elim⟩
def wipeD (η : EnvD) : List Nat → EnvD
  | [] => η
  | v :: vs => (wipeD η vs).set v .un
theorem StOk.wipe (S : StOk R B η w σ F H) : ∀ vs : List Nat, StOk R B (wipeD η vs) w (L2.wipe σ vs) F H
  | [] => S
  | v :: vs => (S.wipe vs).forget v none
/-- the turns of a comprehension -/
def lcL (own : List Nat) (tgf : TgF W) (ft : FT W) (fe : FE W) : List D → EnvD → W → Res (List D × W)
  | [], _, w => .ok ([], w)
  | d :: r, η, w => bindM (tgf d (wipeD η own) w) fun η1 w0 => bindM (ft η1 w0) fun b w1 => match b with
    | true => bindM (fe η1 w1) fun y w2 => bindM (lcL own tgf ft fe r η w2) fun ys w3 => .ok (y :: ys, w3)
    | false => lcL own tgf ft fe r η w1
def eLc (fi : FI W) (own : List Nat) (tgf : TgF W) (ft : FT W) (fe : FE W) : FE W := fun η w => bindM (fi η w) fun ds w1 => bindM (lcL own tgf ft fe ds η w1) fun ys w2 => .ok (.list ys, w2)
def tYesF : FT W := fun _ w => .ok (true, w)
theorem Post.at {α : Type} {r : Res (α × W)} {Xc : String → Prop} {P : α → Hp → Hp → Prop} (e : Ext R F H F1 H1) (p : Post R F H Xc r P) : Post R F1 H1 Xc r P := by
  match r, p with
  | .ok (a, w), p => exact fun F' H' e' k' => p F' H' (e.trans e') k'
  | .exc c, p => exact p
  | .stk, p => exact p
/-- the tests of a clause -/
structure DTs (X : Cx) (R : Rsc W) (ifs : List Expr) (t : TT) (f : FT W) : Prop where
  pt : PTs X ifs t
  rf : RefT R t f
theorem dts_nil : DTs X R [] tYes (tYesF : FT W) := ⟨pts_nil, fun B η w σ F H S Q p => p.here S.wok⟩
theorem dts_one {c : Expr} {t : TT} {f : FT W} (h : DT X R c t f) : DTs X R [c] t f := ⟨pts_one h.pt, h.rf⟩
def less (H : Hp) (L : Addr) : Hp := fun a => if a = L then none else H a
theorem less_ne {H : Hp} {L a : Addr} (h : a ≠ L) : less H L a = H a := by unfold less; rw [if_neg h]
theorem less_some {H : Hp} {L a : Addr} {o : HO} (h : less H L a = some o) : a ≠ L ∧ H a = some o := by
  unfold less at h
  split at h
  · cases h
  · rename_i n; exact ⟨n, h⟩
theorem less_upd {H : Hp} {L : Addr} {o : HO} : less (upd H L o) L = less H L := by
  funext a
  unfold less
  split
  · rfl
  · rename_i n; exact upd_ne n
theorem less_none {H : Hp} {L : Addr} (h : H L = none) : less H L = H := by
  funext a
  unfold less
  split
  · rename_i n; rw [n, h]
  · rfl
theorem Ext.less {L : Addr} (e : Ext R F H F1 H1) : Ext R F (Cw.less H L) F1 (Cw.less H1 L) := ⟨e.mono, fun n q h => by
  obtain ⟨h1, h2⟩ := less_some h
  rw [less_ne h1]; exact e.keep n q h2, fun n z h h' => e.fresh n z (less_some h).2 h'⟩
theorem Ext.ofLess {L : Addr} : Ext R F (Cw.less H L) F H := ⟨Sub.refl F, fun n q h => (less_some h).2, fun n z h h' => h'⟩
theorem Post.bindL {L : Addr} {α β : Type} {Xc : String → Prop} {r : Res (α × W)} {g : α → W → Res (β × W)} {P : β → Hp → Hp → Prop} {P' : α → Hp → Hp → Prop}
    (h : Post R F (Cw.less H L) Xc (bindM r g) P) (k : ∀ a w1 F1 H1, Ext R F H F1 H1 → Wok R F1 H1 w1 → Post R F1 (Cw.less H1 L) Xc (g a w1) P → P' a F1 H1) : Post R F H Xc r P' := by
  match r, h with
  | .ok (a, w1), h =>
    intro F1 H1 e o
    exact k a w1 F1 H1 e o (Post.at e.less h)
  | .exc c, h => exact h
  | .stk, h => exact h
theorem ref_lc {wi : TI} {g : TG} {tt : TT} {te : TE} {fi : FI W} {tgf : TgF W} {ft : FT W} {fe : FE W} {own sl : List Nat} (hsl : ∀ i ∈ sl, i ∈ own)
    (hi : ∀ (B : Bs) (η : EnvD) (w : W) (σ : L2.St) (F H : Hp), StOk R B η w σ F H → ∀ Rr : It → Hp → Prop, Post R F H B.X (fi η w) (fun ds F' H' => ds.length ≤ 1000000 → ∀ J, ItW R F' (Stay R F' H') J ds → Rr J H') → wi σ H Rr)
    (hg : ∀ (B : Bs) (η : EnvD) (w : W) (σ : L2.St) (F H : Hp) (v : V) (d : D) (P : L2.St → Hp → Prop), StOk R B η w σ F H → Dn F v d → (match tgf d η w with
      | .ok (η1, w1) => w1 = w → ∀ σ1, StOk R B η1 w σ1 F H → (∀ vs, (∀ i ∈ sl, i ∈ vs) → wipe σ1 vs = wipe σ vs) → P σ1 H
      | _ => False) → g v σ H P)
    (hgw : ∀ d η w η1 w1, tgf d η w = .ok (η1, w1) → w1 = w) (hgx : ∀ d η w c, tgf d η w ≠ .exc c) (ht : RefT R tt ft) (he : RefE R te fe) : RefN R (tLc wi g tt te own) (eLc fi own tgf ft fe) := fun B η w σ F0 H0 S0 Q p => by
  refine hi B η w σ F0 H0 S0 _ (p.bind fun ds w1 F1 H1 e0 k0 p hlen J hJ => fun L hL => ?_)
  have S1 := S0.go e0 k0
  have hL0 : H0 L = none := e0.none0 k0 hL
  have nfL : ¬ R.foot L := k0.notfoot hL
  -- what is wanted behind the rest of the turns
  have p1 : Post R F1 (Cw.less (upd H1 L (.lst [])) L) B.X (bindM (lcL own tgf ft fe ds η w1) fun ys w2 => .ok ([] ++ ys, w2)) (fun all F' H' => ∀ vs, H' L = some (.lst vs) → DnL F' vs all → F' L = none → Q (.ref L) H') := by
    rw [less_upd, less_none hL]
    revert p
    generalize lcL own tgf ft fe ds η w1 = r
    intro p
    match r, p with
    | .ok (ys, w2), p => exact fun F' H' e k vs hv hd hF => p F' H' e k L _ hL0 hv (.lst hd) hF
    | .exc c, p => exact p
    | .stk, p => exact p
  refine ⟨fun i m H => ∃ w F vs acc, Wok R F H w ∧ Ext R F1 H1 F H ∧ H L = some (.lst vs) ∧ F L = none ∧ DnL F vs acc ∧ i ≤ ds.length ∧ m = ds.length - i ∧ vs.length ≤ i ∧
      Post R F (Cw.less H L) B.X (bindM (lcL own tgf ft fe (ds.drop i) η w) fun ys w2 => .ok (acc ++ ys, w2)) (fun all F' H' => ∀ vs, H' L = some (.lst vs) → DnL F' vs all → F' L = none → Q (.ref L) H'),
    ⟨_, w1, F1, [], [], k0.newO hL, Ext.newO hL, upd_same, k0.Fnone hL, .nil, Nat.zero_le _, rfl, Nat.zero_le _, p1⟩, fun i m H hW => ?_⟩
  obtain ⟨w, F, vs, acc, k, e, hv, hF, hd, hle, hm, hvl, q⟩ := hW
  have S := S1.go e k
  obtain ⟨hgo, hst⟩ := hJ F H w e.mono (fun a o n z h => e.keep n z h) k
  by_cases hi : i < ds.length
  · right
    obtain ⟨h1, h2⟩ := hgo i _ (List.getElem?_eq_getElem hi)
    refine ⟨h1, fun H' => ∃ w' F' vs' acc', Wok R F' H' w' ∧ Ext R F1 H1 F' H' ∧ H' L = some (.lst vs') ∧ F' L = none ∧ DnL F' vs' acc' ∧ vs'.length ≤ i + 1 ∧
        Post R F' (Cw.less H' L) B.X (bindM (lcL own tgf ft fe (ds.drop (i + 1)) η w') fun ys w2 => .ok (acc' ++ ys, w2)) (fun all F' H' => ∀ vs, H' L = some (.lst vs) → DnL F' vs all → F' L = none → Q (.ref L) H'), fun H' hN => ?_, fun x H' hy => ?_⟩
    · obtain ⟨w', F', vs', acc', a1, a2, a3, a4, a5, a6, a7⟩ := hN
      exact ⟨ds.length - (i + 1), by omega, w', F', vs', acc', a1, a2, a3, a4, a5, hi, rfl, a6, a7⟩
    · obtain ⟨F', e', k', hx⟩ := h2 x H' hy
      have S' := (S.go e' k').wipe own
      rw [List.drop_eq_getElem_cons hi] at q
      unfold lcL at q
      refine hg B _ w _ F' H' x _ _ S' hx ?_
      have hw' := hgw ds[i] (wipeD η own) w
      have hx' := hgx ds[i] (wipeD η own) w
      revert q hw' hx'
      generalize tgf ds[i] (wipeD η own) w = r
      intro q hw' hx'
      match r, q with
      | .exc c, q => exact absurd rfl (hx' c)
      | .stk, q => exact q.elim
      | .ok (η1, w0), q =>
        rintro rfl σ1 Sg hwp
        have e1 := e.trans e'
        have hv1 : H' L = some (.lst vs) := e'.keep nfL (.inl hF) hv
        have hF1 : F' L = none := e'.fresh nfL (show ¬ IsFrz (.lst _) from fun z => z) hv hF
        refine ⟨(hwp own fun i hi => hsl i hi).trans (wipe_wipe own own σ fun _ h => h), ?_⟩
        -- the test
        have q1 : Post R F' (Cw.less H' L) B.X (bindM (ft η1 w0) fun b w1 => bindM (match b with
            | true => bindM (fe η1 w1) fun y w2 => bindM (lcL own tgf ft fe (ds.drop (i + 1)) η w2) fun ys w3 => .ok (y :: ys, w3)
            | false => lcL own tgf ft fe (ds.drop (i + 1)) η w1) fun ys w2 => .ok (acc ++ ys, w2)) (fun all F' H' => ∀ vs, H' L = some (.lst vs) → DnL F' vs all → F' L = none → Q (.ref L) H') := by
          refine Post.at e'.less ?_
          revert q
          simp only [bindM]
          generalize ft η1 w0 = r1
          intro z
          match r1, z with
          | .ok (true, w2), z => exact z
          | .ok (false, w2), z => exact z
          | .exc c, z => exact z
          | .stk, z => exact z
        refine ht B η1 w0 σ1 F' H' Sg _ (Post.bindL q1 fun b w1 F2 H2 e2 k2 q2 => ?_)
        have hv2 : H2 L = some (.lst vs) := e2.keep nfL (.inl hF1) hv1
        have hF2 : F2 L = none := e2.fresh nfL (show ¬ IsFrz (.lst _) from fun z => z) hv1 hF1
        have e12 := e1.trans e2
        cases b with
        | false => exact iteF ⟨w1, F2, vs, acc, k2, e12, hv2, hF2, hd.mono (e'.mono.trans e2.mono), Nat.le_succ_of_le hvl, q2⟩
        | true =>
          refine iteT (he B η1 w1 σ1 F2 H2 (Sg.go e2 k2) _ ?_)
          have q3 : Post R F2 (Cw.less H2 L) B.X (bindM (fe η1 w1) fun y w2 => bindM (lcL own tgf ft fe (ds.drop (i + 1)) η w2) fun ys w3 => .ok ((acc ++ [y]) ++ ys, w3)) (fun all F' H' => ∀ vs, H' L = some (.lst vs) → DnL F' vs all → F' L = none → Q (.ref L) H') := by
            revert q2
            simp only [bindM]
            generalize fe η1 w1 = r1
            intro z
            match r1, z with
            | .ok (y, w2), z =>
              simp only at z ⊢
              revert z
              generalize lcL own tgf ft fe (ds.drop (i + 1)) η w2 = r2
              intro z
              match r2, z with
              | .ok (ys, w3), z =>
                simp only [List.append_assoc, List.cons_append, List.nil_append]
                exact z
              | .exc c, z => exact z
              | .stk, z => exact z
            | .exc c, z => exact z
            | .stk, z => exact z
          refine Post.bindL q3 fun y w2 F3 H3 e3 k3 q4 v hy => ?_
          have hv3 : H3 L = some (.lst vs) := e3.keep nfL (.inl hF2) hv2
          have hF3 : F3 L = none := e3.fresh nfL (show ¬ IsFrz (.lst _) from fun z => z) hv2 hF2
          have hd3 := ((hd.mono e'.mono).mono e2.mono).mono e3.mono
          refine ⟨vs, hv3, line_lt (by omega), w2, F3, vs ++ [v], acc ++ [y], ⟨fun a u h => ?_, k3.nf, R.stable k3.res (fun b fb => upd_ne fun z => nfL (z ▸ fb)) fun b g h => by rw [upd_ne (fun z => by subst z; rw [hv3] at h; cases h)]; exact h, k3.low⟩, ⟨(e12.trans e3).mono, fun {a o} n z h => ?_, (e12.trans e3).fresh⟩, upd_same, hF3, hd3.append (.one hy), by simp; omega, ?_⟩
          · rw [upd_ne (ne_of_none h hF3)]; exact k3.sub a u h
          · rw [upd_ne (ne_of_none h hL)]; exact (e12.trans e3).keep n z h
          · rw [less_upd]; exact q4
  · left
    have ei : i = ds.length := by omega
    refine ⟨hst i (by omega), ?_⟩
    rw [ei, List.drop_length] at q
    have q' : Post R F (Cw.less H L) B.X (.ok (acc ++ [], w)) (fun all F' H' => ∀ vs, H' L = some (.lst vs) → DnL F' vs all → F' L = none → Q (.ref L) H') := q
    rw [List.append_nil] at q'
    exact q' F H .ofLess k vs hv hd hF
variable {tg iter e elt : Expr} {ifs : List Expr} {scope : Scope} {own : List (Str × Nat)} {wi : TI} {g : TG} {tt : TT} {te : TE} {fi : FI W} {tgf : TgF W} {ft : FT W} {fe : FE W} {sl : List Nat} {pos spos py : Pos}
/-- what a names' target never does -/
def NoG (tgf : TgF W) : Prop := (∀ d η w η1 w1, tgf d η w = .ok (η1, w1) → w1 = w) ∧ ∀ d η w c, tgf d η w ≠ .exc c
def NoGs (tgf : TgFs W) : Prop := (∀ d η w η1 w1, tgf d η w = .ok (η1, w1) → w1 = w) ∧ ∀ d η w c, tgf d η w ≠ .exc c
theorem ng_n (i : Nat) : NoG (tgN i : TgF W) := ⟨fun d η w η1 w1 h => by cases h; rfl, fun d η w c h => by cases h⟩
theorem ng_nil : NoGs (tgNil : TgFs W) := ⟨fun d η w η1 w1 h => by unfold tgNil at h; split at h <;> cases h; rfl, fun d η w c h => by unfold tgNil at h; split at h <;> cases h⟩
theorem ng_cons {f : TgF W} {g : TgFs W} (h1 : NoG f) (h2 : NoGs g) : NoGs (tgCons f g) := by
  refine ⟨fun d η w η1 w1 h => ?_, fun d η w c h => ?_⟩
  · unfold tgCons at h
    split at h
    · rename_i d r
      cases z : f d η w with
      | ok q =>
        rw [z] at h
        have := h1.1 _ _ _ q.1 q.2 z
        rw [← this]; exact h2.1 _ _ _ _ _ h
      | exc c => rw [z] at h; cases h
      | stk => rw [z] at h; cases h
    · cases h
  · unfold tgCons at h
    split at h
    · rename_i d r
      cases z : f d η w with
      | ok q => rw [z] at h; exact h2.2 _ _ _ _ h
      | exc c => exact h1.2 _ _ _ _ z
      | stk => rw [z] at h; cases h
    · cases h
theorem ng_t {g : TgFs W} (h : NoGs g) : NoG (tgT g) := by
  refine ⟨fun d η w η1 w1 q => ?_, fun d η w c q => ?_⟩
  · unfold tgT at q
    split at q
    · exact h.1 _ _ _ _ _ q
    · cases q
  · unfold tgT at q
    split at q
    · exact h.2 _ _ _ _ q
    · cases q
theorem dn_lc (hc : X.calm = true) (hN : X.N.Nodup) (hi : DJ X R tg iter wi fi) (ok : BlkOk X.N X.env.scope scope own)
    (hg : ∀ (s : Shared) (H : Hp) (C : Addr) (cl : List (Str × Addr)) (fp : List Addr), DGn (X.blk s H scope (compEnvC scope cl C X.env) fp) R tg g tgf sl) (ng : NoG tgf) (hsl : ∀ i ∈ sl, i ∈ own.map (·.2))
    (ht : ∀ (s : Shared) (H : Hp) (C : Addr) (cl : List (Str × Addr)) (fp : List Addr), DTs (X.blk s H scope (compEnvC scope cl C X.env) fp) R ifs tt ft)
    (he : ∀ (s : Shared) (H : Hp) (C : Addr) (cl : List (Str × Addr)) (fp : List Addr), DE (X.blk s H scope (compEnvC scope cl C X.env) fp) R elt te fe) (hs : ∀ x, foldedSetIterable iter X.env x = pure x := by intro _; rfl) :
    DN X R (.ListComp elt [⟨tg, iter, ifs, 0⟩] scope pos) (tLc wi g tt te (own.map (·.2))) (eLc fi (own.map (·.2)) tgf ft fe) :=
  ⟨pe_lc hc hN hi.pi ok (fun s H C cl fp => (hg s H C cl fp).pg) (fun s H C cl fp => (ht s H C cl fp).pt) (fun s H C cl fp => (he s H C cl fp).pe) hs,
    ref_lc hsl hi.rf (hg X.s_0 X.H_0 0 [] []).rf ng.1 ng.2 (ht X.s_0 X.H_0 0 [] []).rf (he X.s_0 X.H_0 0 [] []).rf⟩
theorem ps_lc {i : Nat} {y : Str} (hc : X.calm = true) (hN : X.N.Nodup) (hy : X.N[i]? = some y) (hyl : X.env.scope.names.lookup y = some .local)
    (hsw : swapsWith (.ListComp elt [⟨tg, iter, ifs, 0⟩] scope pos) (some (.Name y py)) spos.line X.env = pure true) (hi : DJ X R tg iter wi fi) (ok : BlkOk X.N X.env.scope scope own)
    (hg : ∀ (s : Shared) (H : Hp) (C : Addr) (cl : List (Str × Addr)) (fp : List Addr), DGn (X.blk s H scope (compEnvC scope cl C X.env) fp) R tg g tgf sl) (ng : NoG tgf) (hsl : ∀ i ∈ sl, i ∈ own.map (·.2))
    (ht : ∀ (s : Shared) (H : Hp) (C : Addr) (cl : List (Str × Addr)) (fp : List Addr), DTs (X.blk s H scope (compEnvC scope cl C X.env) fp) R ifs tt ft)
    (he : ∀ (s : Shared) (H : Hp) (C : Addr) (cl : List (Str × Addr)) (fp : List Addr), DE (X.blk s H scope (compEnvC scope cl C X.env) fp) R elt te fe) (hs : ∀ x, foldedSetIterable iter X.env x = pure x := by intro _; rfl) :
    PS X (.Assign [.Name y py] (.ListComp elt [⟨tg, iter, ifs, 0⟩] scope pos) spos) (tAsg (tLc wi g tt te (own.map (·.2))) (gName i)) ∧ RefN R (tLc wi g tt te (own.map (·.2))) (eLc fi (own.map (·.2)) tgf ft fe) :=
  ⟨ps_setLc hc hN hy hyl hsw hi.pi ok (fun s H C cl fp => (hg s H C cl fp).pg) (fun s H C cl fp => (ht s H C cl fp).pt) (fun s H C cl fp => (he s H C cl fp).pe) hs,
    ref_lc hsl hi.rf (hg X.s_0 X.H_0 0 [] []).rf ng.1 ng.2 (ht X.s_0 X.H_0 0 [] []).rf (he X.s_0 X.H_0 0 [] []).rf⟩
theorem ds_lc {i : Nat} {st : Stmt} {t : TE} {f : FE W} (h : PS X st (tAsg t (gName i)) ∧ RefN R t f) : DS X R st (tAsg t (gName i)) (sSet i f) := ⟨h.1, ref_set i h.2.e⟩
theorem ds_lcN {i : Nat} {st : Stmt} {t : TE} {f : FE W} (h : PS X st (tAsg t (gName i)) ∧ RefN R t f) : DS X R st (tAsg t (gName i)) (sSetN i f) := ⟨h.1, ref_setN i h.2⟩
end
end Cw

set_option autoImplicit true
namespace Cw
open PySem PySem.Spec PyProof.Rows L2
section
variable {W : Type} {R : Rsc W} {F H F1 H1 : Hp} {w w1 : W} {X : Cx} {B : Bs} {η : EnvD} {σ : L2.St}
variable {e a b : Expr} {te ta tb : TE} {fe fa fb : FE W} {pos p apos cpos : Pos}

/-! ### x.append(e), x.extend(e), x[i] = e of a list in a slot -/
def ownL (η : EnvD) (i : Nat) : Option (List D) := match η[i]? with
  | some (.ow (.list xs)) => some xs
  | _ => none
theorem ownL_some {i : Nat} {xs : List D} (h : ownL η i = some xs) : η[i]? = some (Slot.ow (.list xs)) := by
  unfold ownL at h
  split at h
  · rename_i ys e
    cases h
    exact e
  · cases h
theorem StOk.owL (S : StOk R B η w σ F H) {i : Nat} {xs : List D} (h : ownL η i = some xs) : ∃ q vs, σ[i]? = some (some (V.ref q)) ∧ H q = some (.lst vs) ∧ DnL F vs xs ∧ F q = none ∧ ¬ R.foot q := by
  obtain ⟨q, o, h1, h2, h3, h4, h5, h6⟩ := S.ow (ownL_some h)
  cases h3 with
  | lst hd => exact ⟨q, _, h1, h2, hd, h4, h6⟩
def sApp (i : Nat) (f : FE W) : FS W := fun η w => match ownL η i with
  | some xs => bindM (f η w) fun d w1 => match okLen xs.length with
    | true => .ok (.nx (η.set i (.ow (.list (xs ++ [d])))), w1)
    | false => .stk
  | none => .stk
theorem ref_app {K : PySem.W.Frag} {i : Nat} (he : RefE R te fe) : RefS R (tDrop (tBM K "list" rAppend (tVar i) (tCons te tNil))) (sApp i fe) := fun B η w σ F H S Dd p => by
  unfold sApp at p
  split at p
  · rename_i xs z
    obtain ⟨q, vs, h1, h2, h3, h4, h5⟩ := S.owL z
    refine ⟨_, h1, .inl ⟨rfl, vs, SqL.of h2⟩, he B η w σ F H S _ (p.bind S fun d w1 F1 H1 S1 e1 p v hv => ?_)⟩
    split at p
    · rename_i hl
      have h2' : H1 q = some (.lst vs) := e1.keep h5 (.inl h4) h2
      refine ⟨q, vs, v, rfl, rfl, h2', by rw [h3.len]; exact line_lt (okLen_le hl), ?_⟩
      exact p _ F1 _ (S1.write (ownL_some z) h1 (.lst ((h3.mono e1.mono).append (.one hv))))
    · exact p.elim
  · exact p.elim
def sExt (i : Nat) (f : FE W) : FS W := fun η w => match ownL η i with
  | some xs => bindM (f η w) fun d w1 => match d with
    | .list ys => match okLen (xs.length + ys.length) with
      | true => .ok (.nx (η.set i (.ow (.list (xs ++ ys)))), w1)
      | false => .stk
    | _ => .stk
  | none => .stk
theorem ref_ext {K : PySem.W.Frag} {i : Nat} (he : RefE R te fe) : RefS R (tDrop (tBM K "list" rExtend (tVar i) (tCons te tNil))) (sExt i fe) := fun B η w σ F H S Dd p => by
  unfold sExt at p
  split at p
  · rename_i xs z
    obtain ⟨q, vs, h1, h2, h3, h4, h5⟩ := S.owL z
    refine ⟨_, h1, .inl ⟨rfl, vs, SqL.of h2⟩, he B η w σ F H S _ (p.bind S fun d w1 F1 H1 S1 e1 p v hv => ?_)⟩
    split at p
    · split at p
      · rename_i hl
        have h2' : H1 q = some (.lst vs) := e1.keep h5 (.inl h4) h2
        cases hv with
        | lst hf hd =>
          refine ⟨q, _, vs, _, rfl, rfl, h2', S1.wok.at hf id, by rw [h3.len, hd.len]; exact line_of (okLen_le hl), ?_⟩
          exact p _ F1 _ (S1.write (ownL_some z) h1 (.lst ((h3.mono e1.mono).append hd)))
      · exact p.elim
    · exact p.elim
  · exact p.elim
theorem ds_app (i : Nat) {x : Str} {xpos : Pos} (hN : X.N[i]? = some x := by rfl) (hv : Vis X.env.scope x := by first | exact Or.inl rfl | exact Or.inr (Or.inl rfl) | exact Or.inr (Or.inr rfl)) (he : DE X R e te fe)
    (hb : attributeBase (.Name x xpos) "append" X.env (eval (.Name x xpos) X.env) = eval (.Name x xpos) X.env := by rfl) (hf : ((backTo cpos (starEach (e :: []) X.env)).all (fun x => !x.1) && (backToKw cpos (keywordEach [] X.env)).all (fun x => x.1.isSome)
      && decide ((e :: []).length + ([] : List Keyword).length + (if ([] : List Keyword).isEmpty then 0 else 1) < 30)) = true := by rfl) (hl : (apos.endLine == cpos.line) = true := by rfl) (hs : starEach (e :: []) X.env = (false, eval e X.env) :: starEach [] X.env := by rfl)
    (hp : (backTo cpos (starEach [] X.env)).any (·.1) = false := by rfl) (hsw : swapsWith (.Call (.Attribute (.Name x xpos) "append" apos) [e] [] cpos) none pos.line X.env = pure false := by rfl) (hd : (x == ("__debug__" : Str)) = false := by decide) (hcd : (x == ("__classdict__" : Str)) = false := by decide) :
    DS X R (.Expr (.Call (.Attribute (.Name x xpos) "append" apos) [e] [] cpos) pos) (tDrop (tBM X.K "list" rAppend (tVar i) (tCons te tNil))) (sApp i fe) :=
  ⟨ps_expr (pe_bm PySem.F.plainAttrs_list PySem.F.slot_list_append PySem.F.type_list_append mt_append (pe_var hN hv hd hcd) (pa_cons he.pe pa_nil hs) hb hf hl hs hp) hsw, ref_app he.rf⟩
theorem ds_ext (i : Nat) {x : Str} {xpos : Pos} (hN : X.N[i]? = some x := by rfl) (hv : Vis X.env.scope x := by first | exact Or.inl rfl | exact Or.inr (Or.inl rfl) | exact Or.inr (Or.inr rfl)) (he : DE X R e te fe)
    (hb : attributeBase (.Name x xpos) "extend" X.env (eval (.Name x xpos) X.env) = eval (.Name x xpos) X.env := by rfl) (hf : ((backTo cpos (starEach (e :: []) X.env)).all (fun x => !x.1) && (backToKw cpos (keywordEach [] X.env)).all (fun x => x.1.isSome)
      && decide ((e :: []).length + ([] : List Keyword).length + (if ([] : List Keyword).isEmpty then 0 else 1) < 30)) = true := by rfl) (hl : (apos.endLine == cpos.line) = true := by rfl) (hs : starEach (e :: []) X.env = (false, eval e X.env) :: starEach [] X.env := by rfl)
    (hp : (backTo cpos (starEach [] X.env)).any (·.1) = false := by rfl) (hsw : swapsWith (.Call (.Attribute (.Name x xpos) "extend" apos) [e] [] cpos) none pos.line X.env = pure false := by rfl) (hd : (x == ("__debug__" : Str)) = false := by decide) (hcd : (x == ("__classdict__" : Str)) = false := by decide) :
    DS X R (.Expr (.Call (.Attribute (.Name x xpos) "extend" apos) [e] [] cpos) pos) (tDrop (tBM X.K "list" rExtend (tVar i) (tCons te tNil))) (sExt i fe) :=
  ⟨ps_expr (pe_bm PySem.F.plainAttrs_list PySem.F.slot_list_extend PySem.F.type_list_extend mt_extend (pe_var hN hv hd hcd) (pa_cons he.pe pa_nil hs) hb hf hl hs hp) hsw, ref_ext he.rf⟩
/-- x[k] = .. as a target -/
def tgSub (i : Nat) (fk : FE W) : TgF W := fun d η w => match ownL η i with
  | some xs => bindM (fk η w) fun k w1 => match k with
    | .int k => match ixN xs.length k with
      | some j => .ok (η.set i (.ow (.list (xs.set j d))), w1)
      | none => .stk
    | _ => .stk
  | none => .stk
theorem dg_sub (i : Nat) {x : Str} {xpos : Pos} {k : Expr} {tk : TE} {fk : FE W} (hN : X.N[i]? = some x := by rfl) (hv : Vis X.env.scope x := by first | exact Or.inl rfl | exact Or.inr (Or.inl rfl) | exact Or.inr (Or.inr rfl)) (hk : DQ X R k tk fk)
    (hd : (x == ("__debug__" : Str)) = false := by decide) (hcd : (x == ("__classdict__" : Str)) = false := by decide)
    (ha : ∀ v, assign (.Subscript (.Name x xpos) k pos) X.env v = (do
      let ov ← holding [v] (eval (.Name x xpos) X.env)
      let iv ← holding [v, ov] (eval k X.env)
      standAt pos
      holding [v, ov, iv] (setItem ov iv v)
      release [v, ov, iv] []) := by intro _; rfl) : DG X R (.Subscript (.Name x xpos) k pos) (gSub (tVar i) tk rSetL) (tgSub i fk) := ⟨pg_sub (pe_var hN hv hd hcd) hk.pe set_list ha, fun B η w σ F H v d P S hv p => by
  unfold tgSub at p
  split at p
  · rename_i xs z
    obtain ⟨q, vs, h1, h2, h3, h4, h5⟩ := S.owL z
    refine ⟨_, h1, hk.rf B η w σ F H S _ ?_⟩
    revert p
    generalize fk η w = r
    intro p
    match r, p with
    | .ok (.int kk, w1), p =>
      intro F1 H1 e1 k1 y hy
      have S1 := S.go e1 k1
      simp only [bindM] at p
      split at p
      · rename_i j hj
        refine ⟨q, vs, kk, j, rfl, hy.int, e1.keep h5 (.inl h4) h2, by rw [h3.len]; exact hj, ?_⟩
        exact p _ F1 _ (S1.write (ownL_some z) h1 (.lst ((h3.mono e1.mono).set (hv.mono e1.mono) j))) e1.mono
      · exact p.elim
    | .ok (.none, w1), p => exact p.elim
    | .ok (.bool _, w1), p => exact p.elim
    | .ok (.str _, w1), p => exact p.elim
    | .ok (.list _, w1), p => exact p.elim
    | .ok (.tuple _, w1), p => exact p.elim
    | .ok (.dict _, w1), p => exact p.elim
    | .exc c, p => exact p
    | .stk, p => exact p.elim
  · exact p.elim⟩
/-- target = value -/
def sAsg (f : FE W) (tgf : TgF W) : FS W := fun η w => bindM (f η w) fun d w1 => bindM (tgf d η w1) fun η' w2 => .ok (.nx η', w2)
theorem ds_asg {tg : Expr} {g : TG} {tgf : TgF W} (he : DE X R e te fe) (hg : DG X R tg g tgf) (hs : swapsWithSole [tg] e pos.line X.env = pure false := by rfl) (hw : swappedStores [tg] e X.env = pure none := by rfl)
    (h1 : (assignEach [tg] X.env).map (·.2) = [assign tg X.env] := by rfl) : DS X R (.Assign [tg] e pos) (tAsg te g) (sAsg fe tgf) := ⟨ps_asg he.pe hg.pg hs hw h1, fun B η w σ F H S Dd p =>
  he.rf B η w σ F H S _ (p.bind S fun d w1 F1 H1 S1 e1 p v hv => by
    refine hg.rf B η w1 σ F1 H1 v d _ S1 hv ?_
    revert p
    generalize tgf d η w1 = r
    intro p
    match r, p with
    | .ok (η', w2), p => exact fun σ1 F2 H2 S2 _ => p σ1 F2 H2 S2
    | .exc c, p => exact p
    | .stk, p => exact p)⟩
/-- x op= e -/
def sAug (i : Nat) (op : D → D → Res D) (f : FE W) : FS W := fun η w => match η[i]? with
  | some (.fr d) => bindM (f η w) fun y w1 => bindM (liftM (op d y) w1) fun z w2 => .ok (.nx (η.set i (.fr z)), w2)
  | _ => .stk
def RIp (R : Rsc W) (ti : TIp) (f : D → D → Res D) : Prop := ∀ {F H : Hp} {w : W} {x y : V} {a b : D} {Q : VK}, Wok R F H w → Dn F x a → Sq R F H y b → Post R F H (fun _ => False) (liftM (f a b) w) (PV Q) → ti x y H Q
theorem rip_i {g : Int → Int → Int} : RIp R (ipI g) (i2 g) := by
  intro F H w x y a b Q k hx hy p
  unfold i2 at p
  split at p
  · cases hx; exact ⟨_, _, rfl, hy.int, p.here k _ (.int _)⟩
  · exact p.elim
theorem ds_aug {i : Nat} {x : Str} {op : Operator} {ti : TIp} {f : D → D → Res D} {pos' : Pos} (hN : X.N.Nodup) (hi : X.N[i]? = some x) (hx : Loc X.env.scope x) (he : DQ X R e te fe) (ho : PIp X op ti) (hr : RIp R ti f) (nx : NoX2 f) (hf : X.fn x = true ∨ X.env.scope.names.lookup x = some .local := by first | exact .inl rfl | exact .inr rfl | assumption) :
    DS X R (.AugAssign (.Name x pos') op e pos) (tAug i te ti) (sAug i f fe) := ⟨ps_aug hN hi hx he.pe ho hf, fun B η w σ F H S Dd p => by
  unfold sAug at p
  split at p
  · rename_i d hd
    obtain ⟨v, h1, h2⟩ := S.fr hd
    refine ⟨v, h1, he.rf B η w σ F H S _ (p.bind S fun y w1 F1 H1 S1 e1 p u hu => ?_)⟩
    exact hr S1.wok (h2.mono e1.mono) hu (Post.nox (Xc := B.X) (nx d y) (p.bind S1 fun z w2 F2 H2 S2 e2 p t ht => p _ F2 H2 (S2.setFr i ht)))
  · exact p.elim⟩
/-- a, b = x, y -/
inductive Slv (Hs F H : Hp) : List Slot → List V → List Addr → Prop
  | nil : Slv Hs F H [] [] []
  | fr {d : D} {v : V} {sl : List Slot} {vs : List V} {ps : List Addr} : Dn F v d → Slv Hs F H sl vs ps → Slv Hs F H (.fr d :: sl) (v :: vs) ps
  | tx {d : D} {v : V} {sl : List Slot} {vs : List V} {ps : List Addr} : ExT F v d → Slv Hs F H sl vs ps → Slv Hs F H (.tx d :: sl) (v :: vs) ps
  | ow {d : D} {p : Addr} {o : HO} {sl : List Slot} {vs : List V} {ps : List Addr} : Hs p = none → H p = some o → OwO F d o → F p = none → p ∉ ps → Slv Hs F H sl vs ps → Slv Hs F H (.ow d :: sl) (.ref p :: vs) (p :: ps)
theorem Slv.hs {Hs F H : Hp} {sl : List Slot} {vs : List V} {ps : List Addr} (h : Slv Hs F H sl vs ps) : ∀ p ∈ ps, Hs p = none ∧ H p ≠ none := by
  induction h with
  | nil => intro p h; cases h
  | fr _ _ ih => exact ih
  | tx _ _ ih => exact ih
  | ow h1 h2 _ _ _ _ ih =>
    intro p hp
    rcases List.mem_cons.mp hp with rfl | hp
    · exact ⟨h1, by rw [h2]; simp⟩
    · exact ih p hp
theorem Slv.weak {Hs Hs' F H : Hp} {sl : List Slot} {vs : List V} {ps : List Addr} (h : Slv Hs F H sl vs ps) (i : ∀ q, Hs q = none → Hs' q = none) : Slv Hs' F H sl vs ps := by
  induction h with
  | nil => exact .nil
  | fr h _ ih => exact .fr h ih
  | tx h _ ih => exact .tx h ih
  | ow h1 h2 h3 h4 h5 _ ih => exact .ow (i _ h1) h2 h3 h4 h5 ih
abbrev FM (W : Type) := EnvD → W → Res (List Slot × W)
structure DM (X : Cx) (R : Rsc W) (es : List Expr) (t : TA) (f : FM W) : Prop where
  pa : PA X es t
  rf : ∀ (B : Bs) (η : EnvD) (w : W) (σ : L2.St) (F H : Hp), StOk R B η w σ F H → ∀ Q : List V → Hp → Prop, Post R F H B.X (f η w) (fun sl F' H' => ∀ vs ps, Slv H F' H' sl vs ps → Q vs H') → t σ H Q
def mNil : FM W := fun _ w => .ok ([], w)
def mFr (f : FE W) (r : FM W) : FM W := fun η w => bindM (f η w) fun d w1 => bindM (r η w1) fun sl w2 => .ok (.fr d :: sl, w2)
def mOw (f : FE W) (r : FM W) : FM W := fun η w => bindM (f η w) fun d w1 => bindM (r η w1) fun sl w2 => .ok (.ow d :: sl, w2)
variable {es : List Expr} {t : TA} {fm : FM W}
theorem dm_nil : DM X R [] tNil (mNil : FM W) := ⟨pa_nil, fun B η w σ F H S Q p => p.here S.wok _ _ .nil⟩
theorem dm_fr (he : DE X R e te fe) (hr : DM X R es t fm) (hs : starEach (e :: es) X.env = (false, eval e X.env) :: starEach es X.env := by rfl) : DM X R (e :: es) (tCons te t) (mFr fe fm) := ⟨pa_cons he.pe hr.pa hs, fun B η w σ F H S Q p =>
  he.rf B η w σ F H S _ (p.bind fun d w1 F1 H1 e1 k p v hv => hr.rf B η w1 σ F1 H1 (S.go e1 k) _ (p.bind fun sl w2 F2 H2 e2 k2 p vs ps hsl => p.here k2 _ _ (.fr (hv.mono e2.mono) (hsl.weak fun q => e1.none0 k))))⟩
theorem dm_ow (he : DN X R e te fe) (hr : DM X R es t fm) (hs : starEach (e :: es) X.env = (false, eval e X.env) :: starEach es X.env := by rfl) : DM X R (e :: es) (tCons te t) (mOw fe fm) := ⟨pa_cons he.pe hr.pa hs, fun B η w σ F H S Q p =>
  he.rf B η w σ F H S _ (p.bind fun d w1 F1 H1 e1 k p q o hn hq ho hF => hr.rf B η w1 σ F1 H1 (S.go e1 k) _ (p.bind fun sl w2 F2 H2 e2 k2 p vs ps hsl => by
    have nf : ¬ R.foot q := S.wok.notfoot hn
    refine p.here k2 _ _ (.ow hn (e2.keep nf (.inl hF) hq) (ho.mono e2.mono) (e2.fresh nf ho.nofix hq hF) (fun hm => ?_) (hsl.weak fun q => e1.none0 k))
    have := (hsl.hs q hm).1
    rw [hq] at this; cases this))⟩
/-- storing such values -/
theorem StOk.setSl (S : StOk R B η w σ F H) (i : Nat) {Hs : Hp} {s : Slot} {v : V} {sl : List Slot} {vs : List V} {ps : List Addr} (h : Slv Hs F H (s :: sl) (v :: vs) ps) (hB : ∀ q, Hs q = none → B.H q = none ∧ ¬ R.foot q) (hd : ∀ {j : Nat} {e : D} {q : Addr}, η[j]? = some (Slot.ow e) → q ∈ ps → σ[j]? ≠ some (some (V.ref q))) :
    StOk R B (η.set i s) w (σ.set i (some v)) F H ∧ ∃ ps', Slv Hs F H sl vs ps' ∧ ∀ {j : Nat} {e : D} {q : Addr}, (η.set i s)[j]? = some (Slot.ow e) → q ∈ ps' → (σ.set i (some v))[j]? ≠ some (some (V.ref q)) := by
  cases h with
  | fr h t =>
    refine ⟨S.setFr i h, _, t, fun {j e q} hj hq => ?_⟩
    rcases get_set hj with ⟨rfl, z, hl⟩ | ⟨z, hj⟩
    · cases z
    · rw [List.getElem?_set_ne z]; exact hd hj hq
  | tx h t =>
    refine ⟨S.setTx i h, _, t, fun {j e q} hj hq => ?_⟩
    rcases get_set hj with ⟨rfl, z, hl⟩ | ⟨z, hj⟩
    · cases z
    · rw [List.getElem?_set_ne z]; exact hd hj hq
  | ow h1 h2 h3 h4 h5 t =>
    rename_i d p o ps'
    refine ⟨S.setOw i h2 h3 h4 (hB p h1).1 (hB p h1).2 (fun {j e} hj => hd hj List.mem_cons_self), _, t, fun {j e q} hj hq => ?_⟩
    rcases get_set hj with ⟨rfl, z, hl⟩ | ⟨z, hj⟩
    · rw [List.getElem?_set_self (by rw [← S.len]; exact hl)]
      intro z
      cases z
      exact h5 hq
    · rw [List.getElem?_set_ne z]; exact hd hj (List.mem_cons_of_mem _ hq)
theorem Slv.start (S : StOk R B η w σ F H) {sl : List Slot} {vs : List V} {ps : List Addr} (h : Slv H F1 H1 sl vs ps) (e1 : Ext R F H F1 H1) : (∀ q, H q = none → B.H q = none ∧ ¬ R.foot q) ∧ ∀ {j : Nat} {e : D} {q : Addr}, η[j]? = some (Slot.ow e) → q ∈ ps → σ[j]? ≠ some (some (V.ref q)) := by
  refine ⟨fun q hq => ⟨S.ext.none0 S.wok hq, S.wok.notfoot hq⟩, fun {j e q} hj hq z => ?_⟩
  obtain ⟨p2, o2, g1, g2, _⟩ := S.ow hj
  rw [z] at g1
  cases g1
  have := (h.hs q hq).1
  rw [g2] at this; cases this
theorem Slv.one {Hs : Hp} {a : Slot} {vs : List V} {ps : List Addr} (h : Slv Hs F H [a] vs ps) : ∃ v, vs = [v] := by
  cases h with
  | fr _ t => cases t; exact ⟨_, rfl⟩
  | tx _ t => cases t; exact ⟨_, rfl⟩
  | ow _ _ _ _ _ t => cases t; exact ⟨_, rfl⟩
theorem Slv.two {Hs : Hp} {a b : Slot} {vs : List V} {ps : List Addr} (h : Slv Hs F H [a, b] vs ps) : ∃ v u, vs = [v, u] := by
  cases h with
  | fr _ t => obtain ⟨u, rfl⟩ := t.one; exact ⟨_, _, rfl⟩
  | tx _ t => obtain ⟨u, rfl⟩ := t.one; exact ⟨_, _, rfl⟩
  | ow _ _ _ _ _ t => obtain ⟨u, rfl⟩ := t.one; exact ⟨_, _, rfl⟩
def sPar (i j : Nat) (f : FM W) : FS W := fun η w => bindM (f η w) fun sl w1 => match sl with
  | [a, b] => .ok (.nx ((η.set i a).set j b), w1)
  | _ => .stk
theorem ds_par {i j : Nat} {x y : Str} {px py pt : Pos} {kt k2 pt2} (hc : X.calm = true) (hN : X.N.Nodup) (hi : X.N[i]? = some x) (hj : X.N[j]? = some y) (hij : i ≠ j)
    (hx : X.env.scope.names.lookup x = some .local) (hy : X.env.scope.names.lookup y = some .local) (ha : DM X R [a, b] t fm)
    (hw : swappedStores [.Tuple [.Name x px, .Name y py] kt pt] (.Tuple [a, b] k2 pt2) X.env = pure (some [x, y]))
    (hs : swapsWithSole [.Tuple [.Name x px, .Name y py] kt pt] (.Tuple [a, b] k2 pt2) pos.line X.env = pure false := by rfl) :
    DS X R (.Assign [.Tuple [.Name x px, .Name y py] kt pt] (.Tuple [a, b] k2 pt2) pos) (tPar i j t) (sPar i j fm) := ⟨ps_par hc hN hi hj hij hx hy ha.pa hw hs, fun B η w σ F H S Dd p =>
  ha.rf B η w σ F H S _ (p.bind S fun sl w1 F1 H1 S1 e1 p vs ps hsl => by
    split at p
    · obtain ⟨hB, hd⟩ := Slv.start S hsl e1
      obtain ⟨v, u, rfl⟩ := hsl.two
      obtain ⟨S2, ps2, hsl2, hd2⟩ := S1.setSl i hsl hB hd
      obtain ⟨S3, _⟩ := S2.setSl j hsl2 hB hd2
      exact ⟨v, u, rfl, p _ F1 H1 S3⟩
    · exact p.elim)⟩

/-! ### dicts -/
def skey : D → Option Key
  | .int i => some (.inl i)
  | .str x => some (.inr x)
  | _ => none
def skeys : List D → Option (List Key)
  | [] => some []
  | d :: r => match skey d, skeys r with
    | some k, some ks => some (k :: ks)
    | _, _ => none
def tkey : D → Option (List Key)
  | .tuple xs => skeys xs
  | _ => none
theorem skey_some {d : D} {k : Key} (h : skey d = some k) : d = keyD k := by
  cases d <;> simp [skey] at h <;> subst h <;> rfl
theorem skeys_some : ∀ {ds : List D} {ks : List Key}, skeys ds = some ks → ds = ks.map keyD
  | [], ks, h => by cases h; rfl
  | d :: r, ks, h => by
    unfold skeys at h
    split at h
    · rename_i k ks' h1 h2
      cases h
      rw [skey_some h1, skeys_some h2]; rfl
    · cases h
theorem tkey_some {d : D} {ks : List Key} (h : tkey d = some ks) : d = .tuple (ks.map keyD) := by
  cases d <;> simp [tkey] at h
  rw [skeys_some h]
/-- == of keys -/
def keq (a b : D) : Bool := PyData.eqv a b
theorem keq_key (a b : Key) : keq (keyD a) (keyD b) = decide (a = b) := by
  cases a <;> cases b <;> simp [keq, keyD, PyData.eqv]
  · rename_i i j
    by_cases h : i = j
    · subst h; simp
    · simp [h]
  · rename_i i j
    by_cases h : i = j
    · subst h; simp
    · simp [h]
theorem keq_keys : ∀ a b : List Key, PyData.eqvAll (a.map keyD) (b.map keyD) = decide (a = b)
  | [], [] => by simp [PyData.eqvAll]
  | [], _ :: _ => by simp [PyData.eqvAll]
  | _ :: _, [] => by simp [PyData.eqvAll]
  | x :: r, y :: s => by
    have h1 : PyData.eqv (keyD x) (keyD y) = decide (x = y) := keq_key x y
    simp only [List.map_cons, PyData.eqvAll, h1, keq_keys r s, List.cons.injEq, Bool.decide_and]
theorem keq_tup (a b : List Key) : keq (.tuple (a.map keyD)) (.tuple (b.map keyD)) = decide (a = b) := by
  simp only [keq, PyData.eqv]
  exact keq_keys a b
def lookD (kvs : List (D × D)) (k : D) : Option D := match kvs with
  | [] => none
  | (k', v) :: r => match keq k' k with
    | true => some v
    | false => lookD r k
def hasD (kvs : List (D × D)) (k : D) : Bool := match kvs with
  | [] => false
  | (k', v) :: r => keq k' k || hasD r k
def replD (kvs : List (D × D)) (k v : D) : List (D × D) := match kvs with
  | [] => []
  | (k', u) :: r => match keq k' k with
    | true => (k', v) :: replD r k v
    | false => (k', u) :: replD r k v
def putD (kvs : List (D × D)) (k v : D) : List (D × D) := match hasD kvs k with
  | true => replD kvs k v
  | false => kvs ++ [(k, v)]
/-- what stands at a key: none: not asked -/
def dgetD (kvs : List (D × D)) (k : D) : Option (Option D) := match kvs with
  | (.none, _) :: r => match tkey k with
    | some _ => some (lookD r k)
    | none => none
  | r => match skey k with
    | some _ => some (lookD r k)
    | none => none
def dputD (kvs : List (D × D)) (k v : D) : Option (List (D × D)) := match kvs with
  | (.none, z) :: r => match tkey k with
    | some _ => some ((.none, z) :: putD r k v)
    | none => none
  | r => match skey k with
    | some _ => some (putD r k v)
    | none => none
inductive ORel (F : Hp) : Option V → Option D → Prop
  | none : ORel F none none
  | some {v : V} {d : D} : Dn F v d → ORel F (some v) (some d)
theorem DnK.look : ∀ {kvs : List (Key × V)} {ds : List (D × D)} (k : Key), DnK F kvs ds → ORel F (valV kvs k) (lookD ds (keyD k))
  | _, _, k, .nil => .none
  | _, _, k, .cons (k := k') h t => by
    unfold lookD
    rw [keq_key]
    by_cases e : k' = k
    · rw [valV_pos e, decide_eq_true e]; exact .some h
    · rw [valV_neg e, decide_eq_false e]; exact DnK.look k t
theorem DnT.look : ∀ {kvs : List (List Key × V)} {ds : List (D × D)} (k : List Key), DnT F kvs ds → ORel F (valV kvs k) (lookD ds (.tuple (k.map keyD)))
  | _, _, k, .nil => .none
  | _, _, k, .cons (k := k') h t => by
    unfold lookD
    rw [keq_tup]
    by_cases e : k' = k
    · rw [valV_pos e, decide_eq_true e]; exact .some h
    · rw [valV_neg e, decide_eq_false e]; exact DnT.look k t
theorem DnK.has : ∀ {kvs : List (Key × V)} {ds : List (D × D)} (k : Key), DnK F kvs ds → (kvs.any fun kv => decide (kv.1 = k)) = hasD ds (keyD k)
  | _, _, k, .nil => rfl
  | _, _, k, .cons (k := k') h t => by
    unfold hasD
    rw [List.any_cons, keq_key, DnK.has k t]
theorem DnT.has : ∀ {kvs : List (List Key × V)} {ds : List (D × D)} (k : List Key), DnT F kvs ds → (kvs.any fun kv => decide (kv.1 = k)) = hasD ds (.tuple (k.map keyD))
  | _, _, k, .nil => rfl
  | _, _, k, .cons (k := k') h t => by
    unfold hasD
    rw [List.any_cons, keq_tup, DnT.has k t]
theorem DnK.repl {v : V} {d : D} (hv : Dn F v d) : ∀ {kvs : List (Key × V)} {ds : List (D × D)} (k : Key), DnK F kvs ds → DnK F (kvs.map fun kv => if kv.1 = k then (kv.1, v) else kv) (replD ds (keyD k) d)
  | _, _, k, .nil => .nil
  | _, _, k, .cons (k := k') h t => by
    unfold replD
    rw [List.map_cons, keq_key]
    by_cases e : k' = k
    · rw [if_pos (show (k', _).1 = k from e), decide_eq_true e]; exact .cons hv (DnK.repl hv k t)
    · rw [if_neg (show ¬ (k', _).1 = k from e), decide_eq_false e]; exact .cons h (DnK.repl hv k t)
theorem DnT.repl {v : V} {d : D} (hv : Dn F v d) : ∀ {kvs : List (List Key × V)} {ds : List (D × D)} (k : List Key), DnT F kvs ds → DnT F (kvs.map fun kv => if kv.1 = k then (kv.1, v) else kv) (replD ds (.tuple (k.map keyD)) d)
  | _, _, k, .nil => .nil
  | _, _, k, .cons (k := k') h t => by
    unfold replD
    rw [List.map_cons, keq_tup]
    by_cases e : k' = k
    · rw [if_pos (show (k', _).1 = k from e), decide_eq_true e]; exact .cons hv (DnT.repl hv k t)
    · rw [if_neg (show ¬ (k', _).1 = k from e), decide_eq_false e]; exact .cons h (DnT.repl hv k t)
theorem DnK.snoc {v : V} {d : D} (hv : Dn F v d) : ∀ {kvs : List (Key × V)} {ds : List (D × D)} (k : Key), DnK F kvs ds → DnK F (kvs ++ [(k, v)]) (ds ++ [(keyD k, d)])
  | _, _, k, .nil => .cons hv .nil
  | _, _, k, .cons h t => .cons h (DnK.snoc hv k t)
theorem DnT.snoc {v : V} {d : D} (hv : Dn F v d) : ∀ {kvs : List (List Key × V)} {ds : List (D × D)} (k : List Key), DnT F kvs ds → DnT F (kvs ++ [(k, v)]) (ds ++ [(.tuple (k.map keyD), d)])
  | _, _, k, .nil => .cons hv .nil
  | _, _, k, .cons h t => .cons h (DnT.snoc hv k t)
theorem DnK.put {v : V} {d : D} (hv : Dn F v d) {kvs : List (Key × V)} {ds : List (D × D)} (k : Key) (h : DnK F kvs ds) : DnK F (putK kvs k v) (putD ds (keyD k) d) := by
  unfold putK putD
  rw [← h.has k]
  split
  · rename_i e; rw [e]; exact h.repl hv k
  · rename_i e
    rw [Bool.not_eq_true] at e
    rw [e]; exact h.snoc hv k
theorem DnT.put {v : V} {d : D} (hv : Dn F v d) {kvs : List (List Key × V)} {ds : List (D × D)} (k : List Key) (h : DnT F kvs ds) : DnT F (putK kvs k v) (putD ds (.tuple (k.map keyD)) d) := by
  unfold putK putD
  rw [← h.has k]
  split
  · rename_i e; rw [e]; exact h.repl hv k
  · rename_i e
    rw [Bool.not_eq_true] at e
    rw [e]; exact h.snoc hv k
/-- a written key in the heap -/
theorem DnL.keys : ∀ {vs : List V} {ks : List Key}, DnL F vs (ks.map keyD) → vs = ks.map kV
  | _, [], .nil => rfl
  | _, .inl i :: r, .cons h t => by cases h; rw [DnL.keys t]; rfl
  | _, .inr x :: r, .cons h t => by cases h; rw [DnL.keys t]; rfl
theorem Sq.key {v : V} {k : Key} (h : Sq R F H v (keyD k)) : v = kV k := by
  cases k with
  | inl i => exact h.int
  | inr x => exact h.str
/-- nothing below a key of the module's own -/
theorem DnK.nohead {kvs : List (Key × V)} {z : D} {ds : List (D × D)} (h : DnK F kvs ((.none, z) :: ds)) : False := by
  generalize e : ((PyData.none, z) :: ds) = l at h
  cases h with
  | nil => cases e
  | cons h t =>
    rename_i k _ _ _ _
    cases e' : k <;> rw [e'] at e <;> simp [keyD] at e
theorem Sq.dget (k : Wok R F H w) {x y : V} {kvs : List (D × D)} {kd : D} {o : Option D} (hx : Sq R F H x (.dict kvs)) (hy : Sq R F H y kd) (e : dgetD kvs kd = some o) : ∃ a ov, x = .ref a ∧ DGet H a y ov ∧ ORel F ov o := by
  rcases hx.dicK k with ⟨a, ks, rfl, hr, hd⟩ | ⟨a, ks, r, rfl, hr, rfl, hd⟩
  · have e' : ∃ k', skey kd = some k' ∧ o = lookD kvs kd := by
      unfold dgetD at e
      split at e
      · exact (hd.nohead).elim
      · split at e
        · rename_i k' h'
          exact ⟨k', h', (Option.some.inj e).symm⟩
        · cases e
    obtain ⟨k', h1, rfl⟩ := e'
    obtain rfl := skey_some h1
    exact ⟨a, _, rfl, .inl ⟨ks, k', hr, hy.key, rfl⟩, hd.look k'⟩
  · unfold dgetD at e
    simp only at e
    split at e
    · rename_i k' h'
      obtain rfl := tkey_some h'
      cases e
      obtain ⟨b, us, rfl, _, hb, hds⟩ := hy.tup k
      exact ⟨a, _, rfl, .inr ⟨ks, k', b, hr, rfl, by rw [← hds.keys]; exact hb, rfl⟩, hd.look k'⟩
    · cases e
def eDget (fa fb : FE W) : FE W := e2 (fun d k => match d with
  | .dict kvs => match dgetD kvs k with
    | some (some v) => .ok v
    | _ => .stk
  | _ => .stk) fa fb
def eDin (neg : Bool) (fa fb : FE W) : FE W := e2 (fun k d => match d with
  | .dict kvs => match dgetD kvs k with
    | some o => .ok (.bool (neg ^^ o.isSome))
    | _ => .stk
  | _ => .stk) fa fb
theorem ORel.isSome {ov : Option V} {o : Option D} (h : ORel F ov o) : ov.isSome = o.isSome := by cases h <;> rfl
theorem ref_dget (ha : RefQ R ta fa) (hb : RefQ R tb fb) : RefE R (tDGet ta tb) (eDget fa fb) := fun B η w σ F H S Q p =>
  ha B η w σ F H S _ (p.bind fun d w1 F1 H1 e k p v hv => hb B η w1 σ F1 H1 (S.go e k) _ (p.bind fun c w2 F2 H2 e2 k2 p u hu => by
    dsimp only at p
    split at p
    · split at p
      · rename_i kvs d' hg
        obtain ⟨a, ov, rfl, h1, h2⟩ := Sq.dget k2 (hv.go e2) hu hg
        cases h2 with
        | some h2 => exact ⟨a, _, rfl, h1, p.here k2 _ h2⟩
      · exact p.elim
    · exact p.elim))
theorem ref_din (ha : RefQ R ta fa) (hb : RefQ R tb fb) : RefE R (tDIn ta tb) (eDin false fa fb) := fun B η w σ F H S Q p =>
  ha B η w σ F H S _ (p.bind fun d w1 F1 H1 e k p v hv => hb B η w1 σ F1 H1 (S.go e k) _ (p.bind fun c w2 F2 H2 e2 k2 p u hu => by
    dsimp only at p
    split at p
    · split at p
      · rename_i kvs o hg
        obtain ⟨a, ov, rfl, h1, h2⟩ := Sq.dget k2 hu (hv.go e2) hg
        exact ⟨a, _, rfl, h1, by rw [h2.isSome]; rw [Bool.false_xor] at p; exact p.here k2 _ (.bl _)⟩
      · exact p.elim
    · exact p.elim))
theorem ref_dnin (ha : RefQ R ta fa) (hb : RefQ R tb fb) : RefE R (tDNotIn ta tb) (eDin true fa fb) := fun B η w σ F H S Q p =>
  ha B η w σ F H S _ (p.bind fun d w1 F1 H1 e k p v hv => hb B η w1 σ F1 H1 (S.go e k) _ (p.bind fun c w2 F2 H2 e2 k2 p u hu => by
    dsimp only at p
    split at p
    · split at p
      · rename_i kvs o hg
        obtain ⟨a, ov, rfl, h1, h2⟩ := Sq.dget k2 hu (hv.go e2) hg
        exact ⟨a, _, rfl, h1, by rw [h2.isSome]; rw [Bool.true_xor] at p; exact p.here k2 _ (.bl _)⟩
      · exact p.elim
    · exact p.elim))
theorem de_dget (hu : X.A.units + 1 < cLine) (ha : DQ X R a ta fa) (hb : DQ X R b tb fb) (hs : NoSl b := by exact fun _ _ => rfl) : DE X R (.Subscript a b pos) (tDGet ta tb) (eDget fa fb) := ⟨pe_dget hu ha.pe hb.pe hs, ref_dget ha.rf hb.rf⟩
theorem de_din (hu : X.A.units + 1 < cLine) (ha : DQ X R a ta fa) (hb : DQ X R b tb fb) (h1 : behindInMarks .In b = false := by with_unfolding_all rfl) : DE X R (.Compare a [.In] [b] pos) (tDIn ta tb) (eDin false fa fb) := ⟨pe_cmp (pc_din hu ha.pe hb.pe) h1, ref_din ha.rf hb.rf⟩
theorem de_dnin (hu : X.A.units + 1 < cLine) (ha : DQ X R a ta fa) (hb : DQ X R b tb fb) (h1 : behindInMarks .NotIn b = false := by with_unfolding_all rfl) : DE X R (.Compare a [.NotIn] [b] pos) (tDNotIn ta tb) (eDin true fa fb) := ⟨pe_cmp (pc_dnotin hu ha.pe hb.pe) h1, ref_dnin ha.rf hb.rf⟩
theorem dt_din (hu : X.A.units + 1 < cLine) (ha : DQ X R a ta fa) (hb : DQ X R b tb fb) (h1 : behindInMarks .In b = false := by with_unfolding_all rfl) : DT X R (.Compare a [.In] [b] pos) (tB (tDIn ta tb)) (tst (eDin false fa fb)) := ⟨pt_cmp (pc_din hu ha.pe hb.pe) h1, ref_test (ref_din ha.rf hb.rf)⟩
theorem dt_dnin (hu : X.A.units + 1 < cLine) (ha : DQ X R a ta fa) (hb : DQ X R b tb fb) (h1 : behindInMarks .NotIn b = false := by with_unfolding_all rfl) : DT X R (.Compare a [.NotIn] [b] pos) (tB (tDNotIn ta tb)) (tst (eDin true fa fb)) := ⟨pt_cmp (pc_dnotin hu ha.pe hb.pe) h1, ref_test (ref_dnin ha.rf hb.rf)⟩
/-- {}: keys ints and texts; tuples of these -/
theorem dn_newK : DN X R (.Dict [] [] pos) tDNewK (eC (.dict []) : FE W) := ⟨pe_dnewK, fun B η w σ F H S Q p q n => p _ _ (Ext.newO n) (S.wok.newO n) q _ n upd_same (.dK .nil) (S.wok.Fnone n)⟩
theorem dn_newT : DN X R (.Dict [] [] pos) tDNewT (eC (.dict [(.none, .none)]) : FE W) := ⟨pe_dnewT, fun B η w σ F H S Q p q n => p _ _ (Ext.newO n) (S.wok.newO n) q _ n upd_same (.dT .nil) (S.wok.Fnone n)⟩
/-- len of a dict with tuple keys -/
def lenT : List D → Res D
  | [.dict ((.none, _) :: r)] => .ok (.int r.length)
  | _ => .stk
def ownD (η : EnvD) (i : Nat) : Option (List (D × D)) := match η[i]? with
  | some (.ow (.dict xs)) => some xs
  | _ => none
theorem ownD_some {i : Nat} {xs : List (D × D)} (h : ownD η i = some xs) : η[i]? = some (Slot.ow (.dict xs)) := by
  unfold ownD at h
  split at h
  · rename_i ys e
    cases h
    exact e
  · cases h
/-- d[k] = v of a dict in a slot -/
def sDput (i : Nat) (fk fv : FE W) : FS W := fun η w => bindM (fv η w) fun v w1 => match ownD η i with
  | some kvs => bindM (fk η w1) fun k w2 => match dputD kvs k v with
    | some kvs' => match okLen kvs.length with
      | true => .ok (.nx (η.set i (.ow (.dict kvs'))), w2)
      | false => .stk
    | none => .stk
  | none => .stk
theorem ref_dput {i : Nat} {tk tv : TE} {fk fv : FE W} (hk : RefQ R tk fk) (hv : RefE R tv fv) : RefS R (sDPut (tVar i) tk tv) (sDput i fk fv) := fun B η w σ F H S Dd p =>
  hv B η w σ F H S _ (p.bind S fun d w1 F1 H1 S1 e1 p v hv => by
    split at p
    · rename_i kvs z
      obtain ⟨q, o, h1, h2, h3, h4, h5, h6⟩ := S1.ow (ownD_some z)
      refine ⟨_, h1, hk B η w1 σ F1 H1 S1 _ (p.bind S1 fun kd w2 F2 H2 S2 e2 p y hy => ?_)⟩
      split at p
      · rename_i kvs' hput
        split at p
        · rename_i hl
          have hq : H2 q = some o := e2.keep h6 (.inl h4) h2
          have h3' := h3.mono e2.mono
          have hv2 := hv.mono e2.mono
          cases h3' with
          | dK hd =>
            rename_i ks
            have hp : ∃ k', skey kd = some k' ∧ kvs' = putD kvs kd d := by
              unfold dputD at hput
              split at hput
              · exact (hd.nohead).elim
              · split at hput
                · rename_i k' h'
                  exact ⟨k', h', (Option.some.inj hput).symm⟩
                · cases hput
            obtain ⟨k', g1, rfl⟩ := hp
            obtain rfl := skey_some g1
            refine ⟨q, _, rfl, .inl ⟨ks, k', hq, hy.key, by rw [hd.len]; exact line_lt (okLen_le hl), rfl⟩, ?_⟩
            exact p _ F2 _ (S2.write (ownD_some z) h1 (.dK (hd.put hv2 k')))
          | dT hd =>
            rename_i ks r
            unfold dputD at hput
            simp only at hput
            split at hput
            · rename_i k' h'
              obtain rfl := tkey_some h'
              cases hput
              obtain ⟨b, us, rfl, _, hb, hds⟩ := hy.tup S2.wok
              refine ⟨q, _, rfl, .inr ⟨ks, k', b, hq, rfl, by rw [← hds.keys]; exact hb, ?_, rfl⟩, ?_⟩
              · rw [hd.len]
                have := okLen_le hl
                simp only [List.length_cons] at this
                exact line_lt (by omega)
              · exact p _ F2 _ (S2.write (ownD_some z) h1 (.dT (hd.put hv2 k')))
            · cases hput
        · exact p.elim
      · exact p.elim
    · exact p.elim)
theorem ds_dput (hu : X.A.units + 1 < cLine) (i : Nat) {x : Str} {xpos pos' : Pos} {k v : Expr} {tk tv : TE} {fk fv : FE W} (hN : X.N[i]? = some x := by rfl) (hvis : Vis X.env.scope x := by first | exact Or.inl rfl | exact Or.inr (Or.inl rfl) | exact Or.inr (Or.inr rfl)) (hk : DQ X R k tk fk) (hv : DE X R v tv fv)
    (hs : swapsWith v (some (.Subscript (.Name x xpos) k pos')) pos.line X.env = pure false := by rfl) (hd : (x == ("__debug__" : Str)) = false := by decide) (hcd : (x == ("__classdict__" : Str)) = false := by decide) :
    DS X R (.Assign [.Subscript (.Name x xpos) k pos'] v pos) (sDPut (tVar i) tk tv) (sDput i fk fv) := ⟨ps_dput hu (pe_var hN hvis hd hcd) hk.pe hv.pe hs, ref_dput hk.rf hv.rf⟩
end
end Cw

set_option autoImplicit true
/-! enumerate of a tuple; sum of a tuple -/
namespace CwT
open PySem PySem.Spec PyProof.Rows L2
open AutoSeq1 (wpAny_loadPart')
theorem newEnumT (a : Addr) (xs : Array Value) (k : Nat) (dd : Option Addr) (so : Array (Option Value)) :
    Meets (Builtin.«enumerate.__new__» ⟨[.type "enumerate", .ref a], []⟩) (fun _ Z s => s.heap.get? a = some { cls := .type "tuple", dict := dd, data := .seq xs k, slots := so } ∧
      Z (.ok (.ret (.ref (s.heap.push { cls := .type "tuple_iterator", data := .fields #[.ref a, .int 0 0] }).objs.size)))
        { s with heap := (s.heap.push { cls := .type "tuple_iterator", data := .fields #[.ref a, .int 0 0] }).push { cls := .type "enumerate", data := .fields #[.none, .bool false, .ref s.heap.objs.size, rawInt 0, .none, .none] } }) :=
  .of_wp fun prog w A Z s q => by
    obtain ⟨h0, g0, d0, t0, o0⟩ := s
    obtain ⟨ha, q⟩ := q
    have hs := sub_enumerate
    have hT : Heap.IsTuple (Shared.heap ⟨h0, g0, d0, t0, o0⟩) a xs := ⟨_, ha, rfl, k, rfl⟩
    wp_walk using wpAny_loadPart' ha
    refine wpAny_stack_any fun st => wpAny_pure ?_
    split
    · rename_i c _ _ _ _ _
      cases (c == Value.type "enumerate") <;> (wp_walk using wpAny_loadPart' ha, wpAny_pyIter_tuple hT; exact ⟨_, rfl, q⟩)
    · wp_walk using wpAny_loadPart' ha, wpAny_pyIter_tuple hT
      exact ⟨_, rfl, q⟩
section
variable {prog : Program} {w : World} {A : Around} {E : Value → Shared → Prop} {s : Shared}
theorem callEnumT {a : Addr} {xs : Array Value} {Q : Value → Shared → Prop} (hT : IsTup s.heap a xs)
    (q : ∀ h', IsEnum h' (s.heap.objs.size + 1) s.heap.objs.size 0 .none → h'.IsTupleIter s.heap.objs.size a 0 → h'.objs.size = s.heap.objs.size + 2 →
      (∀ b o, s.heap.get? b = some o → h'.get? b = some o) → Q (.ref (s.heap.objs.size + 1)) { s with heap := h' }) :
    wpAny (model prog w) A (call (.type "enumerate") [.ref a]) Q E s := by
  obtain ⟨⟨cc, dd, da, so⟩, ha, hc, k, hd⟩ := hT
  simp only at hc hd
  subst hc hd
  refine callType_new F.called_enumerate (by decide) (F.typeCall_enumerate_1 _) (F.newCall_enumerate_1 _) (fun o => F.args_object_init_2 o _) F.entry_enumerate_new (newEnumT a xs k dd so) ⟨ha, ?_⟩
  have z : (s.heap.push { cls := .type "tuple_iterator", data := .fields #[.ref a, .int 0 0] }).objs.size = s.heap.objs.size + 1 := Heap.size_push ..
  show _ ∧ _
  rw [z]
  have he : IsEnum ((s.heap.push { cls := .type "tuple_iterator", data := .fields #[.ref a, .int 0 0] }).push
      { cls := .type "enumerate", data := .fields #[.none, .bool false, .ref s.heap.objs.size, rawInt 0, .none, .none] }) (s.heap.objs.size + 1) s.heap.objs.size 0 .none := by
    have r := Heap.get?_push_size (s.heap.push { cls := .type "tuple_iterator", data := .fields #[.ref a, .int 0 0] })
      (o := { cls := .type "enumerate", data := .fields #[.none, .bool false, .ref s.heap.objs.size, rawInt 0, .none, .none] }) rfl
    rw [z] at r
    exact r
  exact ⟨⟨_, he, rfl⟩, q _ he ⟨_, Heap.get?_push_of_some _ (Heap.get?_push_size _ rfl), rfl, rfl⟩ (by rw [Heap.size_push, z]) fun b o x => Heap.get?_push_of_some _ (Heap.get?_push_of_some _ x)⟩
end
theorem enumEndT {prog : Program} {w : World} {A : Around} {E : Value → Shared → Prop} {s : Shared} {en it a : Addr} {i : Nat} {xs : Array Value} {old : Value} {Q : Option Value → Shared → Prop} (hh : A.handled = none)
    (he : IsEnum s.heap en it i old) (hit : s.heap.IsTupleIter it a i) (ht : s.heap.IsTuple a xs) (hx : xs[i]? = none) (q : ∀ h', Heap.ExtBut it s.heap h' → Q none { s with heap := h' }) : wpAny (model prog w) A (pyNext (.ref en)) Q E s := by
  have hT : s.TypeIs (.ref en) "enumerate" := ⟨_, he, rfl⟩
  unfold pyNext
  refine wpAny_bind (wpAny_attempt (wpAny_callSpecial?_slot (name := Str.ofString "__next__") hT F.slot_enumerate_next (wpAny_call_entry F.slot_enumerate_next hT F.entry_enumerate_next ?_ (F.args_enumerate_next_1 _))))
  show wpAny _ _ (field (.ref en) 2 >>= _) _ _ _
  refine wpAny_bind (wpAny_field he rfl (x := .ref it) rfl (wpAny_bind (wpAny_nextOf_tuple_end hh hit ht hx fun h' x e1 hx' => ?_)))
  obtain ⟨o, ho, hc⟩ := hx'
  exact wpAny_bind (wpAny_isInstance (T := "StopIteration") (b := true) ⟨o, ho, hc⟩ isSubtype_stop (wpAny_pure (q _ e1)))
/-- the tuple at a, its items in new pairs -/
def IteT (K : PySem.W.Frag) (a : Addr) : It :=
  ⟨fun i H => ∃ (vs : List V) (v : V), SqT K H a vs ∧ vs[i]? = some v,
    fun i H v H' => ∃ T u, v = .ref T ∧ H T = none ∧ H' = upd H T (.tup [.int (i : Nat), u]) ∧ ∀ vs, SqT K H a vs → vs[i]? = some u,
    fun i H => ∃ vs : List V, SqT K H a vs ∧ vs.length ≤ i⟩
theorem turnEnumT {P : Program} {w : World} {K : PySem.W.Frag} {elts : List Expr} {kk : Nat} {tpos : Pos} (a en it : Addr) :
    Turn P w K (.Tuple elts kk tpos) (IteT K a) [en, it] en (fun i h => (∃ old, IsEnum h en it ((i : Nat) : Int) old) ∧ h.IsTupleIter it a i ∧ en ≠ it ∧ a ≠ it ∧ a ≠ en) where
  mem := by simp
  obj := fun i h st b hb => by
    obtain ⟨⟨old, he⟩, ⟨o, ho, hc, hd⟩, _⟩ := st
    rcases (by simpa using hb : b = en ∨ b = it) with rfl | rfl
    · exact ⟨_, he, fun v q => nomatch q⟩
    · exact ⟨o, ho, fun v q => by rw [hd] at q; cases q⟩
  keep := fun i h h' st k => by
    obtain ⟨⟨old, he⟩, hi, hne⟩ := st
    exact ⟨⟨old, k en (by simp) _ he⟩, hi.at fun o q => k it (by simp) o q, hne⟩
  item := by
    intro X hP hw hK hc i pins s σ H E I hf st hg
    subst hP hw hK
    obtain ⟨⟨old, he⟩, hit, hne, hai, hae⟩ := st
    obtain ⟨vs, v, hq, hv⟩ := hg
    obtain ⟨us, rv, pt, _⟩ := I.tuple hq
    obtain ⟨u, hu, ru⟩ := rv.get hv
    have lt1 : en < s.heap.objs.size := Heap.lt_size he
    have lt2 : it < s.heap.objs.size := by obtain ⟨_, q, _⟩ := hit; exact Heap.lt_size q
    have hlen : i < us.toArray.size := by
      have := (List.getElem?_eq_some_iff.mp hu).1
      simpa using this
    refine wpAny_pyNext_enum_itemD (Draws.tuple (A := X.A.in1) (I.ok.hd hc) it a hai us.toArray) he ⟨hit, pt⟩ hlen hne (by simp [hne, Ne.symm hae]) fun x h' tk hx ho hst hT hz hk => ?_
    have ex : x = u := by
      have h1 : us[i]? = some x := by simpa using hx
      rw [hu] at h1
      exact (Option.some.inj h1).symm
    subst ex
    refine ⟨_, rfl, wpAny_letOwnedTupleGo_enum (s := { s with heap := h', toks := tk + 1 }) ho fun h2 he2 sb => ?_⟩
    have hT2 : h2.get? s.heap.objs.size = some { cls := .type "tuple", data := .seq #[.int i tk, x] } := (sb.2 _ (Nat.ne_of_gt lt1)).trans hT
    have nw : ObjOk X.prog X.w (upd H s.heap.objs.size (.tup [.int (i : Nat), v])) h2 s.heap.objs.size (.tup [.int (i : Nat), v]) :=
      ⟨by show 2 ≤ sizeLine; decide, [.int i tk, x], .cons ⟨_, rfl⟩ (.cons ru .nil), ⟨_, hT2, rfl, _, rfl⟩⟩
    have I2 : Inv X pins σ (upd H s.heap.objs.size (.tup [.int (i : Nat), v])) { s with heap := h2, toks := tk + 1 } :=
      I.turnedNew (ch := [en, it]) (fun b ob hb q => (sb.2 b (fun z => hb (by simp [z]))).trans (hk b ob (fun z => hb (by simp [z])) (fun z => hb (by simp [z])) q)) hf (Nat.le_refl _) nw
    refine ⟨.ref s.heap.objs.size, _, I2, rfl, ⟨_, v, rfl, I.hok.fresh (Nat.le_refl _), rfl, fun ys hy => by rw [I.tuple_inj hy hq]; exact hv⟩, ⟨⟨x, ?_⟩, hst.1.at fun o q => (sb.2 it (Ne.symm hne)).trans q, hne, hai, hae⟩, fun b hb => ?_⟩
    · rw [show ((i + 1 : Nat) : Int) = (i : Int) + 1 by omega]; exact he2
    · have hb2 : b < s.heap.objs.size := by
        rcases (by simpa using hb : b = en ∨ b = it) with rfl | rfl
        · exact lt1
        · exact lt2
      rw [upd_ne (Nat.ne_of_lt hb2)]
      exact (hf b hb).1
  done := by
    intro X hP hw hK hc i pins s σ H E I hf st hg
    subst hP hw hK
    obtain ⟨⟨old, he⟩, hit, hne, hai, hae⟩ := st
    obtain ⟨vs, hq, hv⟩ := hg
    obtain ⟨us, rv, pt, _⟩ := I.tuple hq
    obtain ⟨f0, f1, f2, f3, f4, f5⟩ := hf it (by simp)
    have hl := rv.length
    exact enumEndT (I.ok.hd hc) he hit pt (by simp; omega) fun h' eb => ⟨rfl, I.turned (t' := s.toks) (fun b o hb q => eb b o hb q) f0 f1 f3 f4 f5⟩
  self := fun A i s Q E st h => by
    obtain ⟨⟨_, he⟩, _⟩ := st
    exact wpAny_pyIter_enum he h
def iEnT (K : PySem.W.Frag) (ta : TA) : TI := fun σ H Rr => ta σ H fun vs H1 => ∃ a xs, vs = [.ref a] ∧ SqT K H1 a xs ∧ Rr (IteT K a) H1
theorem piEnT {X : Cx} {e : Expr} {ta : TA} {p pos tpos : Pos} {elts : List Expr} {kk : Nat} (hg : Gl X "enumerate") (hm : X.mg "enumerate" = none) (ha : PA X [e] ta) (hs : starEach [e] X.env = [(false, eval e X.env)] := by rfl) : PI X (.Tuple elts kk tpos) (.Call (.Name "enumerate" p) [e] [] pos) (iEnT X.K ta) := by
  refine ⟨fun pins s σ H Rr I h => Call_ (ld_blt I hg hm boot_enumerate (PyProof.Rows.callWith_type1 (thn (ha.run pos pins s σ H _ I h) fun us s1 ⟨vs, H1, I1, r1, q1⟩ => ?_) hs rfl))⟩
  obtain ⟨a, xs, rfl, hq, q⟩ := q1
  obtain ⟨u, rfl, ru⟩ := vals1 r1
  obtain rfl : u = Value.ref a := ru
  obtain ⟨its, rv, pt, _⟩ := I1.tuple hq
  have alt : a < s1.heap.objs.size := by obtain ⟨_, z, _⟩ := pt; exact Heap.lt_size z
  refine callEnumT pt fun h' he hit hz hk => wpAny_pyIter_enum he ?_
  have I2 : Inv X pins σ H1 { s1 with heap := h' } := I1.kept (t' := s1.toks) hk
  refine ⟨s1.heap.objs.size + 1, [s1.heap.objs.size + 1, s1.heap.objs.size], _, _, H1, rfl, I2, turnEnumT a (s1.heap.objs.size + 1) s1.heap.objs.size, ⟨⟨.none, he⟩, hit, Nat.succ_ne_self _, Nat.ne_of_lt alt, Nat.ne_of_lt (Nat.lt_succ_of_lt alt)⟩, fun b hb => ?_, q⟩
  have le : s1.heap.objs.size ≤ b := by
    rcases (by simpa using hb : b = s1.heap.objs.size + 1 ∨ b = s1.heap.objs.size) with rfl | rfl
    · exact Nat.le_add_right _ _
    · exact Nat.le_refl _
  exact I1.fpOk le (I1.hok.fresh le)
/-- sum of a tuple of ints -/
theorem sumT {prog : Program} {w : World} {A : Around} {E : Value → Shared → Prop} {s : Shared} {a : Addr} {its : List Value} {ns : List Int} {Q : Value → Shared → Prop} (hh : A.handled = none) (ht : IsTup s.heap a its.toArray) (hi : IntsAre its ns)
    (q : ∀ h' tk t', (∀ b o, s.heap.get? b = some o → h'.get? b = some o) → Q (.int ns.sum t') { s with heap := h', toks := tk }) : wpAny (model prog w) A (call (.builtin "sum") [.ref a]) Q E s := by
  obtain ⟨xs, e⟩ := hi.allInts.items
  have hn : numsOf (intItems xs).toList = ns := by rw [← e]; exact hi.numsOf
  rw [nums_intItems] at hn
  rw [e] at ht
  have alt : a < s.heap.objs.size := by obtain ⟨_, z, _⟩ := ht; exact Heap.lt_size z
  have ane : a ≠ s.heap.objs.size := Nat.ne_of_lt alt
  refine call_sum_walkG (wpAny_pyIter_tuple ht ?_)
  refine ⟨_, _, _, _, _, _, numAt xs, rfl, Walks.tuple (A := A.in1) hh s.heap.objs.size a ane (intItems xs), ⟨⟨_, Heap.get?_push_size _ rfl, rfl, rfl⟩, ht.push _⟩, fun b hb => ?_, (fun _ _ => intItems_at), fun h' tk t' hk => ?_⟩
  · show b < (s.heap.push _).objs.size
    rw [Heap.size_push]
    rcases (by simpa using hb : b = s.heap.objs.size ∨ b = a) with rfl | rfl
    · exact Nat.lt_succ_self _
    · exact Nat.lt_succ_of_lt alt
  · have z := q h' tk t' fun b o e => hk b o (fun hm => Nat.ne_of_lt (Heap.lt_size e) (by simpa using hm)) (Heap.get?_push_of_some _ e)
    rw [preSum_eq, List.take_of_length_le (by simp [intItems]), hn]
    exact z
end CwT
namespace Cw
open PySem PySem.Spec PyProof.Rows L2
section
variable {W : Type} {R : Rsc W} {F H F1 H1 : Hp} {w w1 : W} {X : Cx}
theorem itw_enumT {K : PySem.W.Frag} {a : Addr} {vs : List V} {ds : List D} {G : Hp → Prop} (hd : DnL F1 vs ds) (h : ∀ (F H : Hp) (w : W), Sub F1 F → G H → Wok R F H w → SqT K H a vs) : ItW R F1 G (CwT.IteT K a) (enumL 0 ds) := fun F H w s g k => by
  have q := h F H w s g k
  refine ⟨fun i d e => ?_, fun i hi => ⟨vs, q, by rw [hd.len, ← enumL_len ds 0]; exact hi⟩⟩
  obtain ⟨d', e1, rfl⟩ := enumL_get _ _ _ _ e
  obtain ⟨v, h1, h2⟩ := hd.get i e1
  refine ⟨⟨vs, v, q, h1⟩, fun x H' hy => ?_⟩
  obtain ⟨T, x', rfl, hT, rfl, f⟩ := hy
  have ex : v = x' := Option.some.inj (h1.symm.trans (f _ q))
  subst ex
  refine ⟨_, Ext.new k hT, k.new hT, ?_⟩
  rw [show (0 : Int) + (i : Nat) = (i : Nat) by omega]
  exact Dn.pair (k.Fnone hT) (.int _) (h2.mono s)
def iEnumA (fe : FE W) : FI W := fun η w => bindM (fe η w) fun d w1 => match d with
  | .list xs => match okLen xs.length with
    | true => .ok (enumL 0 xs, w1)
    | false => .stk
  | .tuple xs => match okLen xs.length with
    | true => .ok (enumL 0 xs, w1)
    | false => .stk
  | _ => .stk
variable {e : Expr} {te : TE} {fe : FE W} {p pos tpos : Pos} {elts : List Expr} {kk : Nat} {tA : TA}
/-- enumerate of a list or a tuple -/
def iEnA (K : PySem.W.Frag) (te : TE) : TI := fun σ H Rr => iEnum K (tCons te tNil) σ H Rr ∨ CwT.iEnT K (tCons te tNil) σ H Rr
theorem di_enumA (hg : Gl X "enumerate") (hm : X.mg "enumerate" = none) (ha : DE X R e te fe) (hs : starEach [e] X.env = [(false, eval e X.env)] := by rfl) (hs2 : starEach [e] X.env = (false, eval e X.env) :: starEach [] X.env := by rfl) :
    DI X R (.Tuple elts kk tpos) (.Call (.Name "enumerate" p) [e] [] pos) (iEnA X.K te) (iEnumA fe) := ⟨pi_or (pi_enum hg hm (pa_cons ha.pe pa_nil hs2) hs) (CwT.piEnT hg hm (pa_cons ha.pe pa_nil hs2) hs), fun B η w σ F H S Rr p => by
  unfold iEnumA at p
  have key := ha.rf B η w σ F H S
  revert p key
  generalize fe η w = r
  intro p key
  match r, p with
  | .ok (.list xs, w1), p =>
    simp only [bindM] at p
    split at p
    · rename_i hl
      refine .inl (key _ fun F' H' e k v hv => ?_)
      cases hv with
      | lst hf hd => exact ⟨_, _, rfl, SqL.of (k.at hf id), p F' H' e k (by rw [enumL_len]; exact okLen_le hl) _ (itw_enum hd fun F2 H2 w2 s _ k2 => SqL.of (k2.at (s _ _ hf) id))⟩
    · exact p.elim
  | .ok (.tuple xs, w1), p =>
    simp only [bindM] at p
    split at p
    · rename_i hl
      refine .inr (key _ fun F' H' e k v hv => ?_)
      cases hv with
      | tup hf hd => exact ⟨_, _, rfl, SqT.of (k.at hf id), p F' H' e k (by rw [enumL_len]; exact okLen_le hl) _ (itw_enumT hd fun F2 H2 w2 s _ k2 => SqT.of (k2.at (s _ _ hf) id))⟩
    · exact p.elim
  | .ok (.none, w1), p => exact p.elim
  | .ok (.bool _, w1), p => exact p.elim
  | .ok (.int _, w1), p => exact p.elim
  | .ok (.str _, w1), p => exact p.elim
  | .ok (.dict _, w1), p => exact p.elim
  | .exc c, p => exact .inl (key _ p)
  | .stk, p => exact p.elim⟩
/-- sum -/
def rSumT (K : PySem.W.Frag) : List V → Hp → VK → Prop := fun vs H Q => ∃ (a : Addr) (ns : List Int), vs = [V.ref a] ∧ SqT K H a (ns.map V.int) ∧ Q (.int ns.sum) H
theorem cr_sumT (hc : X.calm = true) : CallR X (.builtin "sum") (rSumT X.K) := by
  intro pins s σ H xs us Q I r h
  obtain ⟨a, ns, rfl, hq, q⟩ := h
  obtain ⟨u, rfl, ru⟩ := vals1 r
  obtain rfl : u = Value.ref a := ru
  obtain ⟨its, rv, pt, _⟩ := I.tuple hq
  exact CwT.sumT (I.ok.hd hc) pt rv.ints fun h' tk t' hk => ⟨.int ns.sum, H, I.kept (t' := tk) hk, ⟨_, rfl⟩, q⟩
theorem c_sum (hc : X.calm = true) : CallD X R (.builtin "sum") (fun xs H Q => rSum X.K xs H Q ∨ rSumT X.K xs H Q) sumD := ⟨CallR.or (cr_sum hc) (cr_sumT hc), by
  intro F H w vs ds Q k h p
  unfold sumD at p
  split at p
  · split at p
    · rename_i ns e
      obtain ⟨v, rfl, hv⟩ := h.one
      obtain ⟨q, us, rfl, hq, hd⟩ := hv.lst k
      exact .inl ⟨q, ns, rfl, by rw [← intsOf_vals e hd]; exact SqL.of hq, p.here k _ (.int _)⟩
    · exact p.elim
  · split at p
    · rename_i ns e
      obtain ⟨v, rfl, hv⟩ := h.one
      obtain ⟨q, us, rfl, _, hq, hd⟩ := hv.tup k
      exact .inr ⟨q, ns, rfl, by rw [← intsOf_vals e hd]; exact SqT.of hq, p.here k _ (.int _)⟩
    · exact p.elim
  · exact p.elim⟩
/-- len of a dict whose keys are tuples -/
def rLenTR : List V → Hp → VK → Prop := fun xs H Q => ∃ (p : Addr) (kvs : List (List Key × V)), xs = [.ref p] ∧ Rd H p (.dT kvs) ∧ Q (.int ((kvs.length : Nat) : Int)) H
theorem cr_lenT : CallR X (.builtin "len") rLenTR := by
  intro pins s σ H xs us Q I r h
  obtain ⟨p, kvs, rfl, hp, q⟩ := h
  obtain ⟨u, rfl, rx⟩ := vals1 r
  obtain rfl : u = .ref p := rx
  obtain ⟨z, hd, ys, rel, dd⟩ := dt_rd I.hok hp
  have hl : kvs.length = ys.length := Paired.length rel
  refine call_len_dictH hd dd (by rw [← hl]; rw [sizeLine_eq] at z; omega) ?_
  rw [← hl]
  exact ⟨.int ((kvs.length : Nat) : Int), H, I.tok _, ⟨_, rfl⟩, q⟩
def lenTD : List D → Res D
  | [.dict ((.none, _) :: r)] => .ok (.int r.length)
  | _ => .stk
theorem nx_lenT : NoX1 lenTD := by intro ds c; unfold lenTD; split <;> simp
theorem c_lenT : CallD X R (.builtin "len") rLenTR lenTD := ⟨cr_lenT, by
  intro F H w vs ds Q k h p
  unfold lenTD at p
  split at p
  · obtain ⟨v, rfl, hv⟩ := h.one
    rcases hv.dicK k with ⟨a, ks, rfl, hr, hd⟩ | ⟨a, ks, r', rfl, hr, e, hd⟩
    · exact hd.nohead.elim
    · cases e
      exact ⟨a, ks, rfl, hr, by rw [hd.len]; exact p.here k _ (.int _)⟩
  · exact p.elim⟩
end
end Cw

set_option autoImplicit true
namespace Cw
open PySem PySem.Spec PyProof.Rows L2

/-! ### what a def is worth -/
/-- called with frozen data: the data that f gives -/
def spD (f : List D → Res D) : Sp := fun vs H Q _ => ∃ F ds, Wok R0 F H () ∧ DnL F vs ds ∧ Post R0 F H (fun _ => False) (liftM (f ds) ()) (PV Q)
/-- a body's worth: n parameters, N names -/
def runF (n N : Nat) (g : FS Unit) (ds : List D) : Res D := match Nat.beq ds.length n with
  | false => .stk
  | true => match g (ds.map Slot.fr ++ List.replicate (N - n) Slot.un) () with
    | .ok (.rt d, _) => .ok d
    | .ok (.nx _, _) => .ok .none
    | .exc c => .exc c
    | _ => .stk
theorem DnL.at_map {F : Hp} {vs : List V} {ds : List D} {N : Nat} (h : DnL F vs ds) {i : Nat} {d : D} (e : (ds.map Slot.fr ++ List.replicate N Slot.un)[i]? = some (Slot.fr d)) : ∃ v, (vs.map some ++ List.replicate N none)[i]? = some (some v) ∧ Dn F v d := by
  by_cases hi : i < ds.length
  · rw [List.getElem?_append_left (by simpa using hi), List.getElem?_map] at e
    cases z : ds[i]? with
    | none => rw [z] at e; cases e
    | some d' =>
      rw [z] at e
      have e' : d' = d := by simpa using e
      subst e'
      obtain ⟨v, h1, h2⟩ := h.get i z
      exact ⟨v, by rw [List.getElem?_append_left (by rw [List.length_map, h.len]; exact hi), List.getElem?_map, h1]; rfl, h2⟩
  · rw [List.getElem?_append_right (by simpa using Nat.le_of_not_lt hi)] at e
    have := (List.mem_replicate.mp (List.mem_of_getElem? e)).2
    cases this
theorem no_ow {ds : List D} {N i : Nat} {d : D} (h : (ds.map Slot.fr ++ List.replicate N Slot.un)[i]? = some (Slot.ow d)) : False := by
  rcases List.mem_append.mp (List.mem_of_getElem? h) with m | m
  · obtain ⟨_, _, e⟩ := List.mem_map.mp m; cases e
  · cases (List.mem_replicate.mp m).2
theorem no_hd {ds : List D} {N i : Nat} (h : (ds.map Slot.fr ++ List.replicate N Slot.un)[i]? = some Slot.hd) : False := by
  rcases List.mem_append.mp (List.mem_of_getElem? h) with m | m
  · obtain ⟨_, _, e⟩ := List.mem_map.mp m; cases e
  · cases (List.mem_replicate.mp m).2
theorem no_vl {ds : List D} {N i n : Nat} (h : (ds.map Slot.fr ++ List.replicate N Slot.un)[i]? = some (Slot.vl n)) : False := by
  rcases List.mem_append.mp (List.mem_of_getElem? h) with m | m
  · obtain ⟨_, _, e⟩ := List.mem_map.mp m; cases e
  · cases (List.mem_replicate.mp m).2
theorem no_tx {ds : List D} {N i : Nat} {d : D} (h : (ds.map Slot.fr ++ List.replicate N Slot.un)[i]? = some (Slot.tx d)) : False := by
  rcases List.mem_append.mp (List.mem_of_getElem? h) with m | m
  · obtain ⟨_, _, e⟩ := List.mem_map.mp m; cases e
  · cases (List.mem_replicate.mp m).2
theorem StOk.start {F H : Hp} {vs : List V} {ds : List D} {Nm : List Str} (k : Wok R0 F H ()) (h : DnL F vs ds) (n : Nat) (hn : ds.length = n) (Xc : String → Prop) : StOk R0 ⟨F, H, Xc⟩ (ds.map Slot.fr ++ List.replicate (Nm.length - n) Slot.un) () (start Nm vs) F H where
  wok := k
  ext := .refl
  len := by unfold L2.start; simp [h.len, hn]
  fr := fun {i d} e => by
    subst hn
    have z := h.at_map e
    unfold L2.start
    rw [h.len]
    exact z
  ow := fun e => (no_ow e).elim
  hd := fun e => (no_hd e).elim
  vl := fun e => (no_vl e).elim
  inj := fun e => (no_ow e).elim
  tx := fun e => (no_tx e).elim
/-- the end of a body -/
theorem body_end {X : Cx} {body : List Stmt} {t : TS} {g : FS Unit} {Nm : List Str} {n : Nat} {vs : List V} {H : Hp} {Q : VK} {E : XK} (hN : X.N = Nm) (d : DSs X R0 body t g) (h : spD (runF n Nm.length g) vs H Q E) :
    ∃ t, PSs X body t ∧ t { nx := fun _ H' => Q .non H', rt := Q } (start Nm vs) H := by
  obtain ⟨F, ds, k, hd, p⟩ := h
  refine ⟨t, d.ps, ?_⟩
  unfold runF at p
  split at p
  · exact p.elim
  · rename_i hb
    have hn : ds.length = n := Nat.eq_of_beq_eq_true hb
    refine d.rf _ _ _ _ F H (StOk.start k hd n hn (fun _ => False)) _ ?_
    revert p
    generalize g (ds.map Slot.fr ++ List.replicate (Nm.length - n) Slot.un) () = r
    intro p
    match r, p with
    | .ok (.rt d, ()), p => exact fun v F' H' e o hv => p F' H' e o v hv
    | .ok (.nx η, ()), p => exact fun σ' F' H' S => p F' H' S.ext S.wok _ .non
    | .ok (.bk η, ()), p => exact p.elim
    | .ok (.ct η, ()), p => exact p.elim
    | .exc c, p => exact p
    | .stk, p => exact p.elim
theorem spD_len {n N : Nat} {g : FS Unit} {vs : List V} {H : Hp} {Q : VK} {E : XK} (h : spD (runF n N g) vs H Q E) : vs.length = n := by
  obtain ⟨F, ds, k, hd, p⟩ := h
  unfold runF at p
  split at p
  · exact p.elim
  · rename_i hb
    rw [hd.len]; exact Nat.eq_of_beq_eq_true hb
section
variable {W : Type} {R : Rsc W} {X : Cx}
def eFn (f : List D → Res D) (fs : FA W) : FE W := fun η w => bindM (fs η w) fun ds w1 => liftM (f ds) w1
theorem Post.to0 {F H : Hp} {w : W} {Xc : String → Prop} {r : Res D} {Q : VK} (nx : ∀ c, r ≠ .exc c) (k : Wok R F H w) (p : Post R F H Xc (liftM r w) (PV Q)) : Post R0 F H (fun _ => False) (liftM r ()) (PV Q) := by
  match r, nx, p with
  | .ok d, _, p => exact fun F' H' e o v hv => p F' H' (Ext.of0 e) (k.of0 e o) v hv
  | .exc c, nx, _ => exact (nx c rfl).elim
  | .stk, _, p => exact p.elim
/-- a body without raise tells no error -/
def noX (r : Res D) : Res D := match r with
  | .exc _ => .stk
  | r => r
theorem noX_ne {r : Res D} {c : String} : noX r ≠ .exc c := by cases r <;> simp [noX]
variable {CX : CXT} {k : Nat} {f : Addr} {fd : FuncData} {ps : List Str} {x : Str} {p pos : Pos} {e : Expr} {es : List Expr} {t : TA} {m : List D → Res D} {fs : FA W}
theorem ref_fn (ha : RefA R t fs) : RefE R (tCall (spD m) [] E0 t) (eFn (fun ds => noX (m ds)) fs) := fun B η w σ F H S Q p =>
  ha B η w σ F H S _ (p.bind fun ds w1 F1 H1 e k p vs hvs => by
    refine ⟨F1, ds, k.to0, by rw [List.append_nil]; exact hvs, ?_⟩
    have p0 := Post.to0 (fun c => noX_ne) k p
    revert p0
    generalize m ds = r
    intro p0
    match r, p0 with
    | .ok d, p0 => exact p0
    | .exc c, p0 => exact p0.elim
    | .stk, p0 => exact p0)
theorem de_call (F : FnOk X.prog X.w X.K X.mg X.base CX0 k f fd ps (spD m)) (hr : Room k X.A) (hg : Gl X x) (hm : X.mg x = some (.ref f)) (hk : PySem.W.keepIn X.K (.ref f) = true) (hb : Binds X.K fd ps [])
    (ha : DA X R (e :: es) t fs) (hdb : (x == ("__debug__" : Str)) = false := by decide) (he : starEach (e :: es) X.env = (false, eval e X.env) :: starEach es X.env := by rfl) (hpl : (backTo pos (starEach es X.env)).any (·.1) = false := by rfl) :
    DE X R (.Call (.Name x p) (e :: es) [] pos) (tCall (spD m) [] E0 t) (eFn (fun ds => noX (m ds)) fs) := ⟨pe_call F hr hg hm hk hb .nil pass0 ha.pa hdb he hpl, ref_fn ha.rf⟩
end
end Cw

set_option autoImplicit true
namespace Cw
open PySem PySem.Spec PyProof.Rows L2
/-- a def that stands, and is worth m -/
structure Callee (P : Program) (w : World) (K : PySem.W.Frag) (mg : Str → Option Value) (base : Heap) (x : Str) (k : Nat) (m : List D → Res D) : Prop where
  ex : ∃ f fd ps, FnOk P w K mg base CX0 k f fd ps (spD m) ∧ mg x = some (.ref f) ∧ PySem.W.keepIn K (.ref f) = true ∧ Binds K fd ps []
section
variable {W : Type} {R : Rsc W} {F H F1 H1 : Hp} {w w1 : W} {X : Cx}
variable {x : Str} {p pos : Pos} {e a b : Expr} {es : List Expr} {t : TA} {m : List D → Res D} {fs : FA W} {k : Nat} {te ta tb : TE} {fe fa fb : FE W}
theorem de_callC (C : Callee X.prog X.w X.K X.mg X.base x k m) (hr : Room k X.A) (hg : Gl X x)
    (ha : DA X R (e :: es) t fs) (hdb : (x == ("__debug__" : Str)) = false := by decide) (he : starEach (e :: es) X.env = (false, eval e X.env) :: starEach es X.env := by rfl) (hpl : (backTo pos (starEach es X.env)).any (·.1) = false := by rfl) :
    DE X R (.Call (.Name x p) (e :: es) [] pos) (tCall (spD m) [] E0 t) (eFn (fun ds => noX (m ds)) fs) := by
  obtain ⟨f, fd, ps, F, hm, hk, hb⟩ := C.ex
  exact de_call F hr hg hm hk hb ha hdb he hpl
theorem de_globI {i : Int} (hg : Gl X x) (hm : ∃ t, X.mg x = some (.int i t)) (hd : (x == ("__debug__" : Str)) = false := by decide) : DE X R (.Name x pos) (tC (.int i)) (eC (.int i)) := by
  obtain ⟨t, hm⟩ := hm
  exact de_glob hg hm ⟨t, rfl⟩ (fun _ => .int _) hd
theorem de_globS {i : Str} (hg : Gl X x) (hm : ∃ t, X.mg x = some (.str i t)) (hd : (x == ("__debug__" : Str)) = false := by decide) : DE X R (.Name x pos) (tC (.str i)) (eC (.str i)) := by
  obtain ⟨t, hm⟩ := hm
  exact de_glob hg hm ⟨t, rfl⟩ (fun _ => .str _) hd
/-- [..] * n, new -/
def repD (a b : D) : Res D := match a, b with
  | .list xs, .int j => match decide (0 ≤ j) && decide (j ≤ 1000) && okLen (xs.length * j.toNat) with
    | true => .ok (.list (List.replicate j.toNat xs).flatten)
    | false => .stk
  | _, _ => .stk
theorem dn_rep (ha : DQ X R a ta fa) (hb : DQ X R b tb fb) : DN X R (.BinOp a .Mult b pos) (tOp rRep ta tb) (e2 repD fa fb) := ⟨pe_op op_rep ha.pe hb.pe, fun B η w σ F H S Q p =>
  ha.rf B η w σ F H S _ (p.bind fun d w1 F1 H1 e k p v hv => hb.rf B η w1 σ F1 H1 (S.go e k) _ (p.bind fun c w2 F2 H2 e2 k2 p u hu => by
    unfold repD at p
    split at p
    · split at p
      · rename_i xs j _ h
        simp only [Bool.and_eq_true, decide_eq_true_eq] at h
        obtain ⟨q, vs, rfl, hq, hd⟩ := (hv.go e2).lst k2
        exact ⟨q, _, vs, rfl, hu.int, hq, by omega, by omega, by rw [hd.len]; exact line_of (okLen_le h.2), Post.lstN k2 (hd.rep _) (PN_go (fun q hq => e.none S.wok k (e2.none k k2 hq)) p)⟩
      · exact p.elim
    · exact p.elim))⟩
/-- x.index(y), x a list -/
def placeD : List D → D → Option Nat
  | [], _ => none
  | z :: r, d => match PyData.eqv z d with
    | true => some 0
    | false => (placeD r d).map (· + 1)
theorem placeD_some : ∀ {xs : List D} {d : D} {j : Nat}, placeD xs d = some j → ∃ z, xs[j]? = some z ∧ PyData.eqv z d = true ∧ ∀ (m : Nat) (z' : D), m < j → xs[m]? = some z' → PyData.eqv z' d = false
  | [], _, _, h => by cases h
  | z :: r, d, j, h => by
    unfold placeD at h
    cases e : PyData.eqv z d with
    | true =>
      rw [e] at h
      cases h
      exact ⟨z, rfl, e, fun m z' hm => absurd hm (Nat.not_lt_zero m)⟩
    | false =>
      rw [e] at h
      simp only [Option.map_eq_some_iff] at h
      obtain ⟨j', h1, rfl⟩ := h
      obtain ⟨y, g1, g2, g3⟩ := placeD_some h1
      refine ⟨y, by simpa using g1, g2, fun m z' hm hz => ?_⟩
      cases m with
      | zero => simp at hz; rw [← hz]; exact e
      | succ m => exact g3 m z' (by omega) (by simpa using hz)
def indexD (a b : D) : Res D := match a with
  | .list xs => match SeqAt.shaped b && SeqAt.shaped (.list xs) with
    | true => match placeD xs b with
      | some j => .ok (.int (j : Nat))
      | none => .stk
    | false => .stk
  | _ => .stk
def eIndex (fa fb : FE W) : FE W := fun η w => bindM (fa η w) fun d w1 => match d with
  | .list xs => bindM (fb η w1) fun b w2 => liftM (indexD (.list xs) b) w2
  | _ => .stk
theorem ref_index {K : PySem.W.Frag} (ha : RefQ R ta fa) (hb : RefQ R tb fb) : RefE R (tBM K "list" (rIndexD K) ta (tCons tb tNil)) (eIndex fa fb) := fun B η w σ F H S Q p =>
  ha B η w σ F H S _ (p.bind fun d w1 F1 H1 e k p v hv => by
    split at p
    · obtain ⟨q, vs, rfl, hq, hd⟩ := hv.lst k
      refine ⟨.inl ⟨rfl, vs, SqL.of hq⟩, hb B η w1 σ F1 H1 (S.go e k) _ (p.bind fun c w2 F2 H2 e2 k2 p u hu => ?_)⟩
      unfold indexD at p
      dsimp only at p
      split at p
      · rename_i hs
        rw [Bool.and_eq_true] at hs
        split at p
        · rename_i j hj
          obtain ⟨z, g1, g2, g3⟩ := placeD_some hj
          have pl1 := PyData.plain_of_canLay0 _ (SeqAt.canLay_of_shaped hs.1)
          have pl2 := PyData.plain_of_canLay0 _ (SeqAt.canLay_of_shaped hs.2)
          exact ⟨q, u, c, _, j, z, rfl, rfl, (hv.go e2).dp k2 pl2, hu.dp k2 pl1, hs.2, hs.1, g1, g2, g3, p.here k2 _ (.int _)⟩
        · exact p.elim
      · exact p.elim
    · exact p.elim)
variable {apos cpos : Pos}
theorem de_index (hu : X.A.units + 64 < cLine) (hu2 : X.A.units + 65 < cLine) (ha : DQ X R a ta fa) (hb : DQ X R b tb fb)
    (hbs : attributeBase a "index" X.env (eval a X.env) = eval a X.env := by rfl) (hf : ((backTo cpos (starEach (b :: []) X.env)).all (fun x => !x.1) && (backToKw cpos (keywordEach [] X.env)).all (fun x => x.1.isSome)
      && decide ((b :: []).length + ([] : List Keyword).length + (if ([] : List Keyword).isEmpty then 0 else 1) < 30)) = true := by rfl) (hl : (apos.endLine == cpos.line) = true := by rfl) (hs : starEach (b :: []) X.env = (false, eval b X.env) :: starEach [] X.env := by rfl)
    (hp : (backTo cpos (starEach [] X.env)).any (·.1) = false := by rfl) : DE X R (.Call (.Attribute a "index" apos) [b] [] cpos) (tBM X.K "list" (rIndexD X.K) ta (tCons tb tNil)) (eIndex fa fb) :=
  ⟨pe_bm PySem.F.plainAttrs_list PySem.F.slot_list_index PySem.F.type_list_index (mt_indexD hu2) ha.pe (pa_cons hb.pe pa_nil hs) hbs hf hl hs hp, ref_index ha.rf hb.rf⟩
/-- a dict that has just come, walked by its keys: it is locked, and stays so -/
def tLockA (t : TE) : TE := fun σ H Q => t σ H fun x H1 => ∃ d u, x = .ref d ∧ ((H1 d = some u ∧ Mut (some u) ∧ ∀ od, Q x (upd H1 d (.frz od u))) ∨ (∃ od, H1 d = some (.frz od u) ∧ Q x H1))
theorem pe_lockA (h : PE X e te) : PE X e (tLockA te) := ⟨fun pins s σ H Q I q => thn (h.run pins s σ H _ I q) fun v s1 ⟨x, H1, I1, r, d, u, ex, q1⟩ => by
  rcases q1 with ⟨h1, h2, h3⟩ | ⟨od, h1, h2⟩
  · obtain ⟨od, I2⟩ := I1.lock h1 h2
    exact ⟨x, _, I2, r, h3 od⟩
  · exact ⟨x, H1, I1, r, h2⟩⟩
def iKeysF (fe : FE W) : FI W := fun η w => bindM (fe η w) fun d w1 => match d with
  | .dict ((.none, _) :: kvs) => match okLen kvs.length with
    | true => .ok (kvs.map (·.1), w1)
    | false => .stk
  | _ => .stk
theorem DnT.at : ∀ {kvs : List (List Key × V)} {ds : List (D × D)} {i : Nat} {d : D}, DnT F kvs ds → (ds.map (·.1))[i]? = some d → ∃ k v, kvs[i]? = some (k, v) ∧ d = .tuple (k.map keyD)
  | _, _, _, _, .nil, h => by simp at h
  | _, _, 0, d, .cons (k := k) (v := v) _ _, h => ⟨k, v, rfl, by simpa using h.symm⟩
  | _, _, i + 1, d, .cons _ t, h => by
    obtain ⟨k, v, h1, h2⟩ := DnT.at (i := i) t (by simpa using h)
    exact ⟨k, v, by simpa using h1, h2⟩
theorem dnl_keys : ∀ ks : List Key, DnL F (ks.map kV) (ks.map keyD)
  | [] => .nil
  | .inl i :: r => .cons (.int i) (dnl_keys r)
  | .inr x :: r => .cons (.str x) (dnl_keys r)
theorem itw_keys {d : Addr} {od : Obj} {kvs : List (List Key × V)} {ds : List (D × D)} {G : Hp → Prop} (hd : DnT F1 kvs ds) (h : ∀ (F H : Hp) (w : W), Sub F1 F → G H → Wok R F H w → H d = some (.frz od (.dT kvs))) : ItW R F1 G (Itkt d od kvs) (ds.map (·.1)) := fun F H w s g k => by
  have q := h F H w s g k
  refine ⟨fun i c e => ?_, fun i hi => ⟨q, by rw [hd.len]; simpa using hi⟩⟩
  obtain ⟨ky, v, h1, rfl⟩ := hd.at e
  refine ⟨⟨q, (List.getElem?_eq_some_iff.mp h1).1⟩, fun x H' hy => ?_⟩
  obtain ⟨rfl, k2, v2, qa, h2, rfl, hq⟩ := hy
  rw [h1] at h2
  cases h2
  have sb : Sub F (upd F qa (.tup (ky.map kV))) := fun a u z => by
    by_cases e : a = qa
    · subst e
      rcases k.sub _ _ z with z' | ⟨zd, _, z'⟩
      · rw [upd_same, ← hq]; exact z'
      · rw [hq] at z'; cases z'
    · rw [upd_ne e]; exact z
  have nfq : ¬ R.foot qa := fun f => by
    obtain ⟨u, hu, hn⟩ := R.there k.res f
    rw [hq] at hu
    cases hu
    exact hn trivial
  refine ⟨_, ⟨sb, fun _ _ z => z, fun {a o} _ nz z z' => ?_⟩, ⟨fun a u z => ?_, fun {a} f => ?_, k.res, k.low.trans sb⟩, .tup upd_same (dnl_keys ky)⟩
  · rw [upd_ne (fun e => by subst e; rw [hq] at z; cases z; exact nz trivial)]; exact z'
  · by_cases e : a = qa
    · subst e; rw [upd_same] at z; cases z; exact .inl hq
    · rw [upd_ne e] at z; exact k.sub _ _ z
  · rw [upd_ne (show a ≠ qa from fun e => nfq (by rw [← e]; exact f))]; exact k.nf f
/-- the keys of a dict with tuple keys, in a comprehension -/
theorem dj_keys {tg : Expr} (h : DE X R e te fe) : DJ X R tg e (iKeys (tLockA te)) (iKeysF fe) := ⟨pi_keys (pe_lockA h.pe), fun B η w σ F H S Rr p =>
  h.rf B η w σ F H S _ (p.bind fun d w1 F1 H1 e1 k1 p v hv => by
    split at p
    · split at p
      · rename_i kvs hl
        generalize ee : PyData.dict _ = dd at hv
        cases hv with
        | non => cases ee
        | bl => cases ee
        | int => cases ee
        | str => cases ee
        | lst => cases ee
        | tup => cases ee
        | dK hf hd => cases ee; exact hd.nohead.elim
        | dT hf hd =>
          rename_i a ks ds
          cases ee
          have hlen := okLen_le hl
          rcases k1.sub _ _ hf with hh | ⟨_, od, hh⟩
          · refine ⟨a, _, rfl, .inl ⟨hh, trivial, fun od => ⟨a, od, rfl, .inr ⟨ks, upd_same, ?_⟩⟩⟩⟩
            have nfa : ¬ R.foot a := fun f => by rw [k1.nf f] at hf; cases hf
            have k2 : Wok R F1 (upd H1 a (.frz od (.dT ks))) w1 := ⟨fun b u z => by
                by_cases eb : b = a
                · subst eb; rw [hf] at z; cases z; exact .inr ⟨trivial, od, upd_same⟩
                · rw [upd_ne eb]; exact k1.sub _ _ z, k1.nf, R.stable k1.res (fun b fb => upd_ne fun z => nfa (z ▸ fb)) fun b g h => by rw [upd_ne (fun z => by subst z; rw [hh] at h; cases h)]; exact h, k1.low⟩
            refine p F1 _ ⟨Sub.refl F1, fun {b o} n q z => ?_, fun _ _ _ z => z⟩ k2 (by simpa using hlen) _ (itw_keys hd fun F2 H2 w2 s g k3 => g _ _ nfa (.inr trivial) upd_same)
            by_cases eb : b = a
            · subst eb
              rcases q with q | q
              · rw [hf] at q; cases q
              · rw [hh] at z; cases z; exact q.elim
            · rw [upd_ne eb]; exact z
          · refine ⟨a, _, rfl, .inr ⟨od, hh, a, od, rfl, .inr ⟨ks, hh, ?_⟩⟩⟩
            have nfa : ¬ R.foot a := fun f => by rw [k1.nf f] at hf; cases hf
            exact p.here k1 (by simpa using hlen) _ (itw_keys hd fun F2 H2 w2 s g k3 => g _ _ nfa (.inr trivial) hh)
      · exact p.elim
    · exact p.elim)⟩
end
end Cw
namespace Cw
open PySem PySem.Spec PyProof.Rows L2
section
variable {W : Type} {R : Rsc W} {X : Cx} {e : Expr} {t : TE} {f : FE W} {tt : TT} {ft : FT W} {tg iter : Expr} {wi : TI} {fi : FI W}
theorem dq_of (h : DE X R e t f) : DQ X R e t f := h.q
theorem dq_ofN (h : DN X R e t f) : DQ X R e t f := h.q
theorem de_of (h : DN X R e t f) : DE X R e t f := h.e
theorem dt_of (h : DW X R e tt ft) : DT X R e tt ft := h.t
theorem dj_of (h : DI X R tg iter wi fi) : DJ X R tg iter wi fi := h.j
end
end Cw
namespace Cw
open PySem PySem.Spec PyProof.Rows L2
section
variable {W : Type} {R : Rsc W} {X : Cx} {e : Expr} {es : List Expr} {t : TG} {u : TGs} {f : TgF W} {g : TgFs W} {sl sl' : List Nat} {k n : Nat} {pos : Pos}
theorem gns (hs : (assignEach (e :: es) X.env).map (·.2) = assign e X.env :: (assignEach es X.env).map (·.2)) (h1 : DGn X R e t f sl) (h2 : DGns X R es u g sl') : DGns X R (e :: es) (gCons t u) (tgCons f g) (sl ++ sl') := dgns_cons h1 h2 hs
theorem gnt (hc : X.calm = true) (hn : (assignEach es X.env).length = n) (hst : (assignEach es X.env).findIdx? (·.1) = none) (hlen : TLen g n) (h : DGns X R es u g sl) : DGn X R (.Tuple es k pos) (gTup X.K n u) (tgT g) sl := dgn_tup hc h hlen hn hst
theorem ggs (hs : (assignEach (e :: es) X.env).map (·.2) = assign e X.env :: (assignEach es X.env).map (·.2)) (h1 : DG X R e t f) (h2 : DGs X R es u g) : DGs X R (e :: es) (gCons t u) (tgCons f g) := dgs_cons h1 h2 hs
theorem ggt (hc : X.calm = true) (hn : (assignEach es X.env).length = n) (hst : (assignEach es X.env).findIdx? (·.1) = none) (hlen : TLen g n) (nx : ∀ ds η w c, ds.length ≠ n → g ds η w ≠ .exc c) (h : DGs X R es u g) : DG X R (.Tuple es k pos) (gTup X.K n u) (tgT g) := dg_tup hc h hlen nx hn hst
end
end Cw

set_option autoImplicit true
namespace Cw
open PySem PySem.Spec PyProof.Rows L2
/-! the rules with the written part by itself: within a comprehension its block's own context must not be named -/
section
variable {W : Type} {R : Rsc W} {X : Cx} {K : PySem.W.Frag} {a b e : Expr} {ta tb te : TE} {fa fb fe : FE W} {pos p : Pos} {tg : Expr} {tA : TA} {fs : FA W}
theorem k_mul (hK : X.K = K) : OpD X R (binaryOp .Mult) (rMulD K) mulD := by subst hK; exact o_mul
theorem k_add (hK : X.K = K) : OpD X R (binaryOp .Add) (rAddD K) addD := by subst hK; exact o_add
theorem k_eq (hK : X.K = K) (hu : X.A.units + 64 < cLine) : OpD X R (compareOp .Eq) (rEqP K) eqD := by subst hK; exact o_eq hu
theorem k_ne (hK : X.K = K) (hu : X.A.units + 64 < cLine) : OpD X R (compareOp .NotEq) (rNeP K) neD := by subst hK; exact o_ne hu
theorem k_in (hK : X.K = K) (hu : X.A.units + 64 < cLine) : OpD X R (compareOp .In) (rInP K false) inD := by subst hK; exact o_in hu
theorem k_nin (hK : X.K = K) (hu : X.A.units + 64 < cLine) : OpD X R (compareOp .NotIn) (rInP K true) ninD := by subst hK; exact o_nin hu
theorem k_ix (hK : X.K = K) (ha : DQ X R a ta fa) (hb : DQ X R b tb fb) (hs : PlainIx b) : DE X R (.Subscript a b pos) (tOp (fun x y H Q => rIxL K x y H Q ∨ rIxT K x y H Q) ta tb) (e2 ixD fa fb) := by subst hK; exact de_ix ha hb hs
theorem k_slice (hK : X.K = K) {lo hi : Option Expr} {tl th : TO} {fl fh : FO W} {p2 : Pos} (he : DQ X R e te fe) (hl : DO X R lo tl fl) (hh : DO X R hi th fh) : DE X R (.Subscript e (.Slice lo hi none p2) pos) (tSl (fun x l h H Q => rSlA K x l h H Q ∨ rSlL K x l h H Q) te tl th) (eSlice fe fl fh) := by subst hK; exact de_slice he hl hh
theorem k_len (hK : X.K = K) : CallD X R (.builtin "len") (fun xs H Q => ∃ p ys, xs = [.ref p] ∧ (SqL K H p ys ∨ SqT K H p ys) ∧ Q (.int ys.length) H) lenD := by subst hK; exact c_len
theorem k_all (hK : X.K = K) (hc : X.calm = true) : CallD X R (.builtin "all") (rAll K) allD := by subst hK; exact c_all hc
theorem k_any (hK : X.K = K) (hc : X.calm = true) : CallD X R (.builtin "any") (rAny K) anyD := by subst hK; exact c_any hc
theorem k_max1 (hK : X.K = K) (hc : X.calm = true) : CallD X R (.builtin "max") (fun xs H Q => rMax2 xs H Q ∨ rMax K xs H Q) maxD1 := by subst hK; exact c_max1 hc
theorem k_min1 (hK : X.K = K) (hc : X.calm = true) : CallD X R (.builtin "min") (fun xs H Q => rMin2 xs H Q ∨ rMin K xs H Q) minD1 := by subst hK; exact c_min1 hc
theorem k_sorted1 (hK : X.K = K) : CallN X R (.builtin "sorted") (rSorted K) sortedD1 := by subst hK; exact c_sorted1
theorem k_list (hK : X.K = K) : CallN X R (.type "list") (fun xs H Q => ∃ p ys, xs = [.ref p] ∧ (SqL K H p ys ∨ SqT K H p ys) ∧ ∀ l, H l = none → Q (.ref l) (upd H l (.lst ys))) listD := by subst hK; exact c_list
theorem k_tuple (hK : X.K = K) : CallD X R (.type "tuple") (fun xs H Q => ∃ p ys, xs = [.ref p] ∧ ((SqL K H p ys ∧ ∀ l, H l = none → Q (.ref l) (upd H l (.tup ys))) ∨ (SqT K H p ys ∧ Q (.ref p) H))) tupleD := by subst hK; exact c_tuple
theorem k_sum (hK : X.K = K) (hc : X.calm = true) : CallD X R (.builtin "sum") (fun xs H Q => rSum K xs H Q ∨ rSumT K xs H Q) sumD := by subst hK; exact c_sum hc
theorem k_isi (hK : X.K = K) {T : String} {x2 : Str} {p2 : Pos} (hg : Gl X "isinstance") (hm : X.mg "isinstance" = none) (hb : bootBuiltins "isinstance" = some (.builtin "isinstance")) (hg2 : Gl X x2) (hm2 : X.mg x2 = none) (hb2 : bootBuiltins x2 = some (.type T)) (ha : DQ X R a ta fa)
    (hn2 : x2 ≠ "__name__") (hd2 : (x2 == ("__debug__" : Str)) = false) (s1 : starEach [a, .Name x2 p2] X.env = (false, eval a X.env) :: starEach [.Name x2 p2] X.env) (s2 : starEach [.Name x2 p2] X.env = (false, eval (.Name x2 p2) X.env) :: starEach [] X.env)
    (hpl : (backTo pos (starEach [.Name x2 p2] X.env)).any (·.1) = false) : DE X R (.Call (.Name "isinstance" p) [a, .Name x2 p2] [] pos) (tIsi K T ta) (e1 (isiD' T) fa) := by subst hK; exact de_isi hg hm hb hg2 hm2 hb2 ha hn2 hd2 s1 s2 hpl
theorem k_seq (hK : X.K = K) (h : DE X R e te fe) : DI X R tg e (iSeqT K te) (iSeq fe) := by subst hK; exact di_seq h
theorem k_seqJ (hK : X.K = K) (h : DQ X R e te fe) : DJ X R tg e (iSeqT K te) (iSeq fe) := by subst hK; exact dj_seq h
theorem k_enumA (hK : X.K = K) {elts : List Expr} {kk : Nat} {tpos : Pos} (hg : Gl X "enumerate") (hm : X.mg "enumerate" = none) (ha : DE X R e te fe) (hs : starEach [e] X.env = [(false, eval e X.env)]) (hs2 : starEach [e] X.env = (false, eval e X.env) :: starEach [] X.env) :
    DI X R (.Tuple elts kk tpos) (.Call (.Name "enumerate" p) [e] [] pos) (iEnA K te) (iEnumA fe) := by subst hK; exact di_enumA hg hm ha hs hs2
theorem k_zip (hK : X.K = K) {elts : List Expr} {kk : Nat} {tpos : Pos} (hg : Gl X "zip") (hm : X.mg "zip" = none) (ha : DA X R [a, b] tA fs) (hs : starEach [a, b] X.env = (false, eval a X.env) :: starEach [b] X.env) (hpl : (backTo pos (starEach [b] X.env)).any (·.1) = false) :
    DI X R (.Tuple elts kk tpos) (.Call (.Name "zip" p) [a, b] [] pos) (RZ.iZipA K tA) (iZipF fs) := by subst hK; exact di_zip hg hm ha hs hpl
variable {apos cpos : Pos}
theorem k_index (hK : X.K = K) (hu : X.A.units + 64 < cLine) (hu2 : X.A.units + 65 < cLine) (ha : DQ X R a ta fa) (hb : DQ X R b tb fb)
    (hbs : attributeBase a "index" X.env (eval a X.env) = eval a X.env) (hf : ((backTo cpos (starEach (b :: []) X.env)).all (fun x => !x.1) && (backToKw cpos (keywordEach [] X.env)).all (fun x => x.1.isSome)
      && decide ((b :: []).length + ([] : List Keyword).length + (if ([] : List Keyword).isEmpty then 0 else 1) < 30)) = true) (hl : (apos.endLine == cpos.line) = true) (hs : starEach (b :: []) X.env = (false, eval b X.env) :: starEach [] X.env)
    (hp : (backTo cpos (starEach [] X.env)).any (·.1) = false) : DE X R (.Call (.Attribute a "index" apos) [b] [] cpos) (tBM K "list" (rIndexD K) ta (tCons tb tNil)) (eIndex fa fb) := by subst hK; exact de_index hu hu2 ha hb hbs hf hl hs hp
variable {es : List Expr} {u : TGs} {uf : TgFs W} {sl : List Nat} {k n : Nat}
theorem gntK (hK : X.K = K) (hc : X.calm = true) (hn : (assignEach es X.env).length = n) (hst : (assignEach es X.env).findIdx? (·.1) = none) (hlen : TLen uf n) (h : DGns X R es u uf sl) : DGn X R (.Tuple es k pos) (gTup K n u) (tgT uf) sl := by subst hK; exact gnt hc hn hst hlen h
theorem ggtK (hK : X.K = K) (hc : X.calm = true) (hn : (assignEach es X.env).length = n) (hst : (assignEach es X.env).findIdx? (·.1) = none) (hlen : TLen uf n) (nx : ∀ ds η w c, ds.length ≠ n → uf ds η w ≠ .exc c) (h : DGs X R es u uf) : DG X R (.Tuple es k pos) (gTup K n u) (tgT uf) := by subst hK; exact ggt hc hn hst hlen nx h
end
end Cw

set_option autoImplicit true
namespace Cw
open PySem PySem.Spec PyProof.Rows L2

/-! ### defs whose first argument is the thing beside the data -/
section
variable {α W : Type}
def spS (Rs : α → Rsc W) (f : List D → W → Res (D × W)) : Sp := fun vs H Q _ => ∃ (i : α) (us : List V) (F : Hp) (ds : List D) (w : W), vs = (Rs i).self :: us ∧ Wok (Rs i) F H w ∧ DnL F us ds ∧ Post (Rs i) F H (fun _ => False) (f ds w) (PV Q)
/-- a body's worth: n parameters behind the first, N names -/
def runS (n N : Nat) (g : FS W) (ds : List D) (w : W) : Res (D × W) := match Nat.beq ds.length n with
  | false => .stk
  | true => match g (Slot.hd :: (ds.map Slot.fr ++ List.replicate (N - (n + 1)) Slot.un)) w with
    | .ok (.rt d, w1) => .ok (d, w1)
    | .ok (.nx _, w1) => .ok (.none, w1)
    | .exc c => .exc c
    | _ => .stk
theorem StOk.startS {R : Rsc W} {F H : Hp} {w : W} {vs : List V} {ds : List D} {Nm : List Str} (k : Wok R F H w) (h : DnL F vs ds) (n : Nat) (hn : ds.length = n) (Xc : String → Prop) : StOk R ⟨F, H, Xc⟩ (Slot.hd :: (ds.map Slot.fr ++ List.replicate (Nm.length - (n + 1)) Slot.un)) w (L2.start Nm (R.self :: vs)) F H where
  wok := k
  ext := .refl
  len := by unfold L2.start; simp [h.len, hn]
  fr := fun {i d} e => by
    subst hn
    cases i with
    | zero => simp at e
    | succ i =>
      have e' : (ds.map Slot.fr ++ List.replicate (Nm.length - (ds.length + 1)) Slot.un)[i]? = some (Slot.fr d) := by simpa using e
      have z := h.at_map e'
      unfold L2.start
      rw [List.map_cons, List.length_cons, h.len, List.cons_append, List.getElem?_cons_succ]
      exact z
  ow := fun {i d} e => by
    cases i with
    | zero => simp at e
    | succ i => exact (no_ow (by simpa using e)).elim
  hd := fun {i} e => by
    cases i with
    | zero => rfl
    | succ i => exact (no_hd (by simpa using e)).elim
  vl := fun {i v} e => by
    cases i with
    | zero => simp at e
    | succ i => exact (no_vl (by simpa using e)).elim
  inj := fun {i j d e p} q => by
    cases i with
    | zero => simp at q
    | succ i => exact (no_ow (by simpa using q)).elim
  tx := fun {i v} e => by
    cases i with
    | zero => simp at e
    | succ i => exact (no_tx (by simpa using e)).elim
theorem spS_len {Rs : α → Rsc W} {n N : Nat} {g : FS W} {vs : List V} {H : Hp} {Q : VK} {E : XK} (h : spS Rs (runS n N g) vs H Q E) : vs.length = n + 1 := by
  obtain ⟨i, us, F, ds, w, rfl, k, hd, p⟩ := h
  unfold runS at p
  split at p
  · exact p.elim
  · rename_i hb
    rw [List.length_cons, hd.len, Nat.eq_of_beq_eq_true hb]
theorem body_endS {X : Cx} {body : List Stmt} {Rs : α → Rsc W} {t : TS} {i : α} {g : FS W} {Nm : List Str} {n : Nat} {vs : List V} {H : Hp} {Q : VK} (hN : X.N = Nm) (d : DSs X (Rs i) body t g) (h : ∃ (us : List V) (F : Hp) (ds : List D) (w : W), vs = (Rs i).self :: us ∧ Wok (Rs i) F H w ∧ DnL F us ds ∧ Post (Rs i) F H (fun _ => False) (runS n Nm.length g ds w) (PV Q)) :
    ∃ t, PSs X body t ∧ t { nx := fun _ H' => Q .non H', rt := Q } (start Nm vs) H := by
  obtain ⟨us, F, ds, w, rfl, k, hd, p⟩ := h
  refine ⟨t, d.ps, ?_⟩
  unfold runS at p
  split at p
  · exact p.elim
  · rename_i hb
    have hn : ds.length = n := Nat.eq_of_beq_eq_true hb
    refine d.rf _ _ _ _ F H (StOk.startS k hd n hn (fun _ => False)) _ ?_
    revert p
    generalize g (Slot.hd :: (ds.map Slot.fr ++ List.replicate (Nm.length - (n + 1)) Slot.un)) w = r
    intro p
    match r, p with
    | .ok (.rt d, w1), p => exact fun v F' H' e o hv => p F' H' e o v hv
    | .ok (.nx η, w1), p => exact fun σ' F' H' S => p F' H' S.ext S.wok _ .non
    | .ok (.bk η, w1), p => exact p.elim
    | .ok (.ct η, w1), p => exact p.elim
    | .exc c, p => exact p
    | .stk, p => exact p.elim
structure CalleeS (P : Program) (w : World) (K : PySem.W.Frag) (mg : Str → Option Value) (base : Heap) (x : Str) (k : Nat) (Rs : α → Rsc W) (m : List D → W → Res (D × W)) : Prop where
  ex : ∃ f fd ps, FnOk P w K mg base CX0 k f fd ps (spS Rs m) ∧ mg x = some (.ref f) ∧ PySem.W.keepIn K (.ref f) = true ∧ Binds K fd ps []
def noXS (r : Res (D × W)) : Res (D × W) := match r with
  | .exc _ => .stk
  | r => r
def eFnS (i : Nat) (m : List D → W → Res (D × W)) (fs : FA W) : FE W := fun η w => match η[i]? with
  | some .hd => bindM (fs η w) fun ds w1 => noXS (m ds w1)
  | _ => .stk
variable {X : Cx} {Rs : α → Rsc W} {x y : Str} {p pos : Pos} {e : Expr} {es : List Expr} {t : TA} {m : List D → W → Res (D × W)} {fs : FA W} {k : Nat} {j : α} {ypos : Pos}
theorem de_callS (i : Nat) (C : CalleeS X.prog X.w X.K X.mg X.base x k Rs m) (hr : Room k X.A) (hg : Gl X x) (hN : X.N[i]? = some y) (hv : Vis X.env.scope y) (hd : (y == ("__debug__" : Str)) = false) (hcd : (y == ("__classdict__" : Str)) = false)
    (ha : DA X (Rs j) es t fs) (hdb : (x == ("__debug__" : Str)) = false) (he : starEach (.Name y ypos :: es) X.env = (false, eval (.Name y ypos) X.env) :: starEach es X.env) (hpl : (backTo pos (starEach es X.env)).any (·.1) = false) :
    DE X (Rs j) (.Call (.Name x p) (.Name y ypos :: es) [] pos) (tCall (spS Rs m) [] E0 (tCons (tVar i) t)) (eFnS i m fs) := by
  obtain ⟨f, fd, ps, F, hm, hk, hb⟩ := C.ex
  refine ⟨pe_call F hr hg hm hk hb .nil pass0 (pa_cons (pe_var hN hv hd hcd) ha.pa he) hdb he hpl, fun B η w σ F H S Q q => ?_⟩
  unfold eFnS at q
  split at q
  · rename_i hh
    refine ⟨_, S.hd hh, ha.rf B η w σ F H S _ (q.bind fun ds w1 F1 H1 e1 k1 q vs hvs => ?_)⟩
    refine ⟨j, vs, F1, ds, w1, by simp, k1, hvs, ?_⟩
    revert q
    generalize m ds w1 = r
    intro q
    match r, q with
    | .ok (d, w2), q => exact q
    | .exc c, q => exact q.elim
    | .stk, q => exact q.elim
  · exact q.elim
end

/-! ### the bag from which a law draws -/
structure Bag where
  gs : List Int
  seed : Int
  n : Int
  cnt : Int
def BagAt (a g : Addr) (b : Bag) (H : Hp) : Prop := H a = some (.lst [.ref g, .int b.seed, .int b.n, .int b.cnt]) ∧ H g = some (.lst (b.gs.map V.int)) ∧ b.gs.length ≤ 1000
def bagR (i : Addr × Addr) : Rsc Bag where
  foot b := b = i.1 ∨ b = i.2
  self := .ref i.1
  ok b H := BagAt i.1 i.2 b H
  stable := fun {w H H'} h k _ => by
    obtain ⟨h1, h2, h3⟩ := h
    exact ⟨by rw [k _ (.inl rfl)]; exact h1, by rw [k _ (.inr rfl)]; exact h2, h3⟩
  there := fun {w H b} h f => by
    obtain ⟨h1, h2, h3⟩ := h
    rcases f with rfl | rfl
    · exact ⟨_, h1, fun z => z⟩
    · exact ⟨_, h2, fun z => z⟩
/-- what a draw gives -/
def pickB (many : Int) (b : Bag) : Int × Bag :=
  if b.n = 0 then (0, b) else match b.gs with
    | g :: r => (g % many, if g < many then { b with gs := r } else { b with gs := (g / many) :: r })
    | [] =>
      let c := b.cnt + 1
      let x := ((b.seed + 7919 * c) * 48271 + 11) % 2147483647
      let y := (x * (x / 1009 + 69621) + c) % 2147483399
      ((y / 16) % many, { b with cnt := c, seed := (b.seed + y) % 2147483629 })
theorem pickB_range {many : Int} (h : 0 < many) (b : Bag) : 0 ≤ (pickB many b).1 ∧ (pickB many b).1 < many := by
  unfold pickB
  split
  · exact ⟨Int.le_refl _, h⟩
  · split
    · exact ⟨Int.emod_nonneg _ (by omega), Int.emod_lt_of_pos _ h⟩
    · exact ⟨Int.emod_nonneg _ (by omega), Int.emod_lt_of_pos _ h⟩
def m_pick (ds : List D) (b : Bag) : Res (D × Bag) := match ds with
  | [.int many] => match decide (0 < many) && decide (many < 1000000) with
    | true => .ok (.int (pickB many b).1, (pickB many b).2)
    | false => .stk
  | _ => .stk
/-- the bag is changed -/
theorem bag_step {a g : Addr} {F H H' : Hp} {b b' : Bag} (k : Wok (bagR (a, g)) F H b) (h : BagAt a g b' H') (keep : ∀ q o, q ≠ a → q ≠ g → H q = some o → H' q = some o) : Ext (bagR (a, g)) F H F H' ∧ Wok (bagR (a, g)) F H' b' := by
  have fa : F a = none := k.nf (.inl rfl)
  have fg : F g = none := k.nf (.inr rfl)
  refine ⟨⟨Sub.refl F, fun {q o} n _ z => keep q o (fun e => n (.inl e)) (fun e => n (.inr e)) z, fun _ _ _ z => z⟩, ⟨fun q o z => ?_, k.nf, h, k.low⟩⟩
  have na : q ≠ a := fun e => by subst e; rw [fa] at z; cases z
  have ng : q ≠ g := fun e => by subst e; rw [fg] at z; cases z
  rcases k.sub q o z with z' | ⟨d, od, z'⟩
  · exact .inl (keep q o na ng z')
  · exact .inr ⟨d, od, keep q _ na ng z'⟩
end Cw
namespace Cw
open PySem PySem.Spec PyProof.Rows L2
/-- where a law begins to draw -/
theorem law_start {H : Hp} {p g a : Addr} {b : Bag} (h : BagAt p g b H) (n : Nat) : StOk (bagR (p, g)) ⟨fun _ => none, H, fun _ => False⟩ (Slot.un :: Slot.hd :: List.replicate n Slot.un) b (some (.ref a) :: some (.ref p) :: List.replicate n none) (fun _ => none) H := by
  have ns : ∀ (i : Nat) (s : Slot), (Slot.un :: Slot.hd :: List.replicate n Slot.un)[i]? = some s → s = .un ∨ s = .hd := fun i s e => by
    rcases List.mem_cons.mp (List.mem_of_getElem? e) with e | e
    · exact .inl e
    · rcases List.mem_cons.mp e with e | e
      · exact .inr e
      · exact .inl (List.mem_replicate.mp e).2
  refine ⟨⟨(fun a o e => by cases e), fun _ => rfl, h, fun a o e => by cases e⟩, .refl, by simp, fun e => ?_, fun e => ?_, fun {i} e => ?_, fun e => ?_, fun e => ?_, fun e => ?_⟩
  · rcases ns _ _ e with z | z <;> cases z
  · rcases ns _ _ e with z | z <;> cases z
  · match i with
    | 0 => simp at e
    | 1 => rfl
    | i + 2 =>
      have z : (List.replicate n Slot.un)[i]? = some Slot.hd := by simpa using e
      cases (List.mem_replicate.mp (List.mem_of_getElem? z)).2
  · rcases ns _ _ e with z | z <;> cases z
  · rcases ns _ _ e with z | z <;> cases z
  · rcases ns _ _ e with z | z <;> cases z
/-- a def of the text where the top has put it -/
def FunAt (K : PySem.W.Frag) (x : Str) (st : Stmt) : Prop := ∃ f fd, PySem.W.nsIn K mainGlobals x = some (some (.ref f)) ∧ Fun K x x st f fd
theorem funAt_mk {K : PySem.W.Frag} {x : Str} {st : Stmt} {f : Addr} {oc : Value} {od an : Option Addr} {osl : Array (Option Value)} {kV doc pm cdv ct : Value} (a : PySem.W.nsIn K mainGlobals x = some (some (.ref f)))
    (l : K.lookup f = some ⟨oc, od, .func (PySem.W.fnOf x x (defArgs st) (defBody st) (defScope st) .none kV doc pm an cdv ct), osl⟩) (c : PySem.W.codeIn K cdv x = true) (k : PySem.W.keepIn K (.ref f) = true) : FunAt K x st := ⟨f, _, a, fun_mk l c k⟩
end Cw

set_option autoImplicit true
namespace Cw
open PySem PySem.Spec PyProof.Rows L2
/-! ### what leaves the thing beside the data alone -/
section
variable {W α β : Type}
def up (r : Res (α × Unit)) (w : W) : Res (α × W) := match r with
  | .ok (a, _) => .ok (a, w)
  | .exc c => .exc c
  | .stk => .stk
theorem bind_up {r : Res (α × Unit)} {w : W} {k : α → W → Res (β × W)} {k' : α → Unit → Res (β × Unit)} (h : ∀ a, k a w = up (k' a ()) w) : bindM (up r w) k = up (bindM r k') w := match r with
  | .ok (a, ()) => h a
  | .exc c => rfl
  | .stk => rfl
theorem lift_up (r : Res α) (w : W) : liftM r w = up (liftM r ()) w := match r with
  | .ok a => rfl
  | .exc c => rfl
  | .stk => rfl
class Nt (f : EnvD → W → Res (α × W)) (f' : outParam (EnvD → Unit → Res (α × Unit))) : Prop where
  h : ∀ η w, f η w = up (f' η ()) w
class NtG (f : α → EnvD → W → Res (EnvD × W)) (f' : outParam (α → EnvD → Unit → Res (EnvD × Unit))) : Prop where
  h : ∀ d η w, f d η w = up (f' d η ()) w
variable {fa fb fc fe : FE W} {fa' fb' fc' fe' : FE Unit} {ft fu : FT W} {ft' fu' : FT Unit} {fs : FA W} {fs' : FA Unit} {ga gb gc : FS W} {ga' gb' gc' : FS Unit} {fl fh : FO W} {fl' fh' : FO Unit} {fi : FI W} {fi' : FI Unit} {fm : FM W} {fm' : FM Unit} {tg : TgF W} {tg' : TgF Unit} {tgs : TgFs W} {tgs' : TgFs Unit} {i j : Nat}
instance nt_eV : Nt (eV i : FE W) (eV i) := ⟨fun η w => by unfold eV; rcases η[i]? with _ | (_ | _ | _ | _ | _) <;> rfl⟩
instance nt_eVq : Nt (eVq i : FE W) (eVq i) := ⟨fun η w => by unfold eVq; rcases η[i]? with _ | (_ | _ | _ | _ | _) <;> rfl⟩
instance nt_eC {d : D} : Nt (eC d : FE W) (eC d) := ⟨fun η w => rfl⟩
instance nt_e2 {f : D → D → Res D} [Nt fa fa'] [Nt fb fb'] : Nt (e2 f fa fb) (e2 f fa' fb') := ⟨fun η w => by unfold e2; rw [Nt.h (f := fa)]; exact bind_up fun a => by rw [Nt.h (f := fb)]; exact bind_up fun b => lift_up _ _⟩
instance nt_e1 {f : D → Res D} [Nt fa fa'] : Nt (e1 f fa) (e1 f fa') := ⟨fun η w => by unfold e1; rw [Nt.h (f := fa)]; exact bind_up fun a => lift_up _ _⟩
instance nt_tst [Nt fa fa'] : Nt (tst fa) (tst fa') := ⟨fun η w => by unfold tst asB; rw [Nt.h (f := fa)]; exact bind_up fun a => by cases a <;> rfl⟩
instance nt_eChain {f g : D → D → Res D} [Nt fa fa'] [Nt fb fb'] [Nt fc fc'] : Nt (eChain f g fa fb fc) (eChain f g fa' fb' fc') := ⟨fun η w => by
  unfold eChain; rw [Nt.h (f := fa)]; exact bind_up fun a => by
    rw [Nt.h (f := fb)]; exact bind_up fun b => by
      rw [lift_up]; exact bind_up fun d => by
        cases d with
        | bool d => cases d with
          | true => show bindM (fc η w) _ = _; rw [Nt.h (f := fc)]; exact bind_up fun c => lift_up _ _
          | false => rfl
        | _ => rfl⟩
instance nt_tAnd [Nt ft ft'] [Nt fu fu'] : Nt (tAndF ft fu) (tAndF ft' fu') := ⟨fun η w => by unfold tAndF; rw [Nt.h (f := ft)]; exact bind_up fun b => by cases b with
  | true => exact Nt.h η w
  | false => rfl⟩
instance nt_tOr [Nt ft ft'] [Nt fu fu'] : Nt (tOrF ft fu) (tOrF ft' fu') := ⟨fun η w => by unfold tOrF; rw [Nt.h (f := ft)]; exact bind_up fun b => by cases b with
  | false => exact Nt.h η w
  | true => rfl⟩
instance nt_tNot [Nt ft ft'] : Nt (tNotF ft) (tNotF ft') := ⟨fun η w => by unfold tNotF; rw [Nt.h (f := ft)]; exact bind_up fun b => rfl⟩
instance nt_tYes : Nt (tYesF : FT W) tYesF := ⟨fun η w => rfl⟩
instance nt_eAnd [Nt fa fa'] [Nt fb fb'] : Nt (eAnd fa fb) (eAnd fa' fb') := ⟨fun η w => by
  unfold eAnd; rw [Nt.h (f := fa)]; exact bind_up fun d => by
    cases d with
    | bool d => cases d with
      | true => exact Nt.h η w
      | false => rfl
    | _ => rfl⟩
instance nt_eOr [Nt fa fa'] [Nt fb fb'] : Nt (eOr fa fb) (eOr fa' fb') := ⟨fun η w => by
  unfold eOr; rw [Nt.h (f := fa)]; exact bind_up fun d => by
    cases d with
    | bool d => cases d with
      | false => exact Nt.h η w
      | true => rfl
    | _ => rfl⟩
instance nt_eNot [Nt fa fa'] : Nt (eNot fa) (eNot fa') := ⟨fun η w => by unfold eNot; rw [Nt.h (f := fa)]; exact bind_up fun d => by cases d <;> rfl⟩
instance nt_eIf [Nt ft ft'] [Nt fa fa'] [Nt fb fb'] : Nt (eIf ft fa fb) (eIf ft' fa' fb') := ⟨fun η w => by unfold eIf; rw [Nt.h (f := ft)]; exact bind_up fun b => by cases b <;> exact Nt.h η w⟩
instance nt_aNil : Nt (aNil : FA W) aNil := ⟨fun η w => rfl⟩
instance nt_aCons [Nt fa fa'] [Nt fs fs'] : Nt (aCons fa fs) (aCons fa' fs') := ⟨fun η w => by unfold aCons; rw [Nt.h (f := fa)]; exact bind_up fun a => by rw [Nt.h (f := fs)]; exact bind_up fun b => rfl⟩
instance nt_eTup [Nt fs fs'] : Nt (eTup fs) (eTup fs') := ⟨fun η w => by unfold eTup; rw [Nt.h (f := fs)]; exact bind_up fun ds => by split <;> rfl⟩
instance nt_eLst [Nt fs fs'] : Nt (eLst fs) (eLst fs') := ⟨fun η w => by unfold eLst; rw [Nt.h (f := fs)]; exact bind_up fun ds => by split <;> rfl⟩
instance nt_eCall {f : List D → Res D} [Nt fs fs'] : Nt (eCall f fs) (eCall f fs') := ⟨fun η w => by unfold eCall; rw [Nt.h (f := fs)]; exact bind_up fun a => lift_up _ _⟩
instance nt_eFn {f : List D → Res D} [Nt fs fs'] : Nt (eFn f fs) (eFn f fs') := ⟨fun η w => by unfold eFn; rw [Nt.h (f := fs)]; exact bind_up fun a => lift_up _ _⟩
instance nt_oNone : Nt (oNone : FO W) oNone := ⟨fun η w => rfl⟩
instance nt_oSome [Nt fa fa'] : Nt (oSome fa) (oSome fa') := ⟨fun η w => by unfold oSome; rw [Nt.h (f := fa)]; exact bind_up fun d => by cases d <;> rfl⟩
instance nt_eSlice [Nt fa fa'] [Nt fl fl'] [Nt fh fh'] : Nt (eSlice fa fl fh) (eSlice fa' fl' fh') := ⟨fun η w => by
  unfold eSlice; rw [Nt.h (f := fa)]; exact bind_up fun d => by rw [Nt.h (f := fl)]; exact bind_up fun lo => by rw [Nt.h (f := fh)]; exact bind_up fun hi => by cases d <;> rfl⟩
instance nt_g1 [Nt fa fa'] : Nt (g1 fa) (g1 fa') := ⟨fun η w => by unfold g1; rw [Nt.h (f := fa)]; exact bind_up fun d => by cases d <;> rfl⟩
instance nt_g2 [Nt fa fa'] [Nt fb fb'] : Nt (g2 fa fb) (g2 fa' fb') := ⟨fun η w => by unfold g2; rw [Nt.h (f := fa)]; exact bind_up fun d => by rw [Nt.h (f := fb)]; exact bind_up fun e => by cases d <;> cases e <;> rfl⟩
instance nt_eRgL {f : EnvD → W → Res ((Int × Int) × W)} {f' : EnvD → Unit → Res ((Int × Int) × Unit)} [Nt f f'] : Nt (eRgL f) (eRgL f') := ⟨fun η w => by unfold eRgL; rw [Nt.h (f := f)]; exact bind_up fun d => by split <;> rfl⟩
instance nt_eRgT {f : EnvD → W → Res ((Int × Int) × W)} {f' : EnvD → Unit → Res ((Int × Int) × Unit)} [Nt f f'] : Nt (eRgT f) (eRgT f') := ⟨fun η w => by unfold eRgT; rw [Nt.h (f := f)]; exact bind_up fun d => by split <;> rfl⟩
theorem chk_up (xs : List D) (w : W) : chk xs w = up (chk xs ()) w := by unfold chk; split <;> rfl
instance nt_iSeq [Nt fa fa'] : Nt (iSeq fa) (iSeq fa') := ⟨fun η w => by
  unfold iSeq; rw [Nt.h (f := fa)]; exact bind_up fun d => by
    cases d with
    | list xs => exact chk_up xs w
    | tuple xs => exact chk_up xs w
    | _ => rfl⟩
instance nt_iRg1 [Nt fs fs'] : Nt (iRg1 fs) (iRg1 fs') := ⟨fun η w => by
  unfold iRg1; rw [Nt.h (f := fs)]; exact bind_up fun d => by
    rcases d with _ | ⟨a, _ | ⟨b, r⟩⟩
    · rfl
    · cases a with
      | int j => dsimp only; generalize (decide (j ≤ 1000000) && decide (-1000000 ≤ j)) = c; cases c <;> rfl
      | _ => rfl
    · cases a <;> rfl⟩
instance nt_iRg2 [Nt fs fs'] : Nt (iRg2 fs) (iRg2 fs') := ⟨fun η w => by
  unfold iRg2; rw [Nt.h (f := fs)]; exact bind_up fun d => by
    rcases d with _ | ⟨a, _ | ⟨b, _ | ⟨c, r⟩⟩⟩
    · rfl
    · cases a <;> rfl
    · cases a with
      | int i => cases b with
        | int j => dsimp only; generalize (decide (j ≤ 500000) && decide (-500000 ≤ j) && decide (-500000 ≤ i) && decide (i ≤ 500000)) = c; cases c <;> rfl
        | _ => rfl
      | _ => rfl
    · cases a <;> cases b <;> rfl⟩
instance nt_iEnumA [Nt fa fa'] : Nt (iEnumA fa) (iEnumA fa') := ⟨fun η w => by
  unfold iEnumA; rw [Nt.h (f := fa)]; exact bind_up fun d => by
    cases d with
    | list xs => dsimp only; split <;> rfl
    | tuple xs => dsimp only; split <;> rfl
    | _ => rfl⟩
instance nt_iKeys [Nt fa fa'] : Nt (iKeysF fa) (iKeysF fa') := ⟨fun η w => by
  unfold iKeysF; rw [Nt.h (f := fa)]; exact bind_up fun d => by
    cases d with
    | dict kvs =>
      rcases kvs with _ | ⟨⟨k, v⟩, r⟩
      · rfl
      · cases k <;> try rfl
        dsimp only
        split <;> rfl
    | _ => rfl⟩
instance nt_tgN : NtG (tgN i : TgF W) (tgN i) := ⟨fun d η w => rfl⟩
instance nt_tgT [NtG tgs tgs'] : NtG (tgT tgs) (tgT tgs') := ⟨fun d η w => by
  unfold tgT
  cases d with
  | tuple ds => exact NtG.h ds η w
  | _ => rfl⟩
instance nt_tgNil : NtG (tgNil : TgFs W) tgNil := ⟨fun d η w => by unfold tgNil; cases d <;> rfl⟩
instance nt_tgCons [NtG tg tg'] [NtG tgs tgs'] : NtG (tgCons tg tgs) (tgCons tg' tgs') := ⟨fun d η w => by
  unfold tgCons
  cases d with
  | nil => rfl
  | cons d r => dsimp only; rw [NtG.h (f := tg)]; exact bind_up fun η1 => NtG.h r η1 w⟩
theorem forL_up [NtG tg tg'] [Nt ga ga'] (ds : List D) : ∀ (η : EnvD) (w : W), forL tg ga ds η w = up (forL tg' ga' ds η ()) w := by
  induction ds with
  | nil => exact fun η w => rfl
  | cons d r ih =>
    intro η w
    unfold forL
    rw [NtG.h (f := tg)]
    exact bind_up fun η1 => by
      rw [Nt.h (f := ga)]
      exact bind_up fun o => by cases o with
        | nx η' => exact ih η' w
        | ct η' => exact ih η' w
        | bk η' => rfl
        | rt d => rfl
instance nt_sFor [Nt fi fi'] [NtG tg tg'] [Nt ga ga'] : Nt (sFor fi tg ga) (sFor fi' tg' ga') := ⟨fun η w => by unfold sFor; rw [Nt.h (f := fi)]; exact bind_up fun ds => forL_up ds η w⟩
theorem lcL_up {own : List Nat} [NtG tg tg'] [Nt ft ft'] [Nt fe fe'] (ds : List D) : ∀ (η : EnvD) (w : W), lcL own tg ft fe ds η w = up (lcL own tg' ft' fe' ds η ()) w := by
  induction ds with
  | nil => exact fun η w => rfl
  | cons d r ih =>
    intro η w
    unfold lcL
    rw [NtG.h (f := tg)]
    exact bind_up fun η1 => by
      rw [Nt.h (f := ft)]
      exact bind_up fun b => by cases b with
        | true => dsimp only; rw [Nt.h (f := fe)]; exact bind_up fun y => by rw [ih]; exact bind_up fun ys => rfl
        | false => exact ih η w
instance nt_eLc {own : List Nat} [Nt fi fi'] [NtG tg tg'] [Nt ft ft'] [Nt fe fe'] : Nt (eLc fi own tg ft fe) (eLc fi' own tg' ft' fe') := ⟨fun η w => by
  unfold eLc; rw [Nt.h (f := fi)]; exact bind_up fun ds => by rw [lcL_up (tg' := tg') (ft' := ft') (fe' := fe')]; exact bind_up fun ys => rfl⟩
instance nt_sNil : Nt (sNil : FS W) sNil := ⟨fun η w => rfl⟩
instance nt_sStk : Nt (sStk : FS W) sStk := ⟨fun η w => rfl⟩
instance nt_sBrk : Nt (sBrk : FS W) sBrk := ⟨fun η w => rfl⟩
instance nt_sCnt : Nt (sCnt : FS W) sCnt := ⟨fun η w => rfl⟩
instance nt_sSeq [Nt ga ga'] [Nt gb gb'] : Nt (sSeq ga gb) (sSeq ga' gb') := ⟨fun η w => by unfold sSeq; rw [Nt.h (f := ga)]; exact bind_up fun o => by cases o with
  | nx η' => exact Nt.h η' w
  | _ => rfl⟩
instance nt_sIf [Nt ft ft'] [Nt ga ga'] [Nt gb gb'] : Nt (sIf ft ga gb) (sIf ft' ga' gb') := ⟨fun η w => by unfold sIf; rw [Nt.h (f := ft)]; exact bind_up fun b => by cases b <;> exact Nt.h η w⟩
instance nt_sSet [Nt fa fa'] : Nt (sSet i fa) (sSet i fa') := ⟨fun η w => by unfold sSet; rw [Nt.h (f := fa)]; exact bind_up fun d => rfl⟩
instance nt_sSetN [Nt fa fa'] : Nt (sSetN i fa) (sSetN i fa') := ⟨fun η w => by unfold sSetN; rw [Nt.h (f := fa)]; exact bind_up fun d => rfl⟩
instance nt_sRet [Nt fa fa'] : Nt (sRet fa) (sRet fa') := ⟨fun η w => by unfold sRet; rw [Nt.h (f := fa)]; exact bind_up fun d => rfl⟩
instance nt_sDrop [Nt fa fa'] : Nt (sDrop fa) (sDrop fa') := ⟨fun η w => by unfold sDrop; rw [Nt.h (f := fa)]; exact bind_up fun d => rfl⟩
instance nt_sFz [Nt ga ga'] : Nt (sFz i ga) (sFz i ga') := ⟨fun η w => by unfold sFz; rcases η[i]? with _ | (_ | _ | _ | _ | _) <;> exact Nt.h _ w⟩
instance nt_sAsg [Nt fa fa'] [NtG tg tg'] : Nt (sAsg fa tg) (sAsg fa' tg') := ⟨fun η w => by unfold sAsg; rw [Nt.h (f := fa)]; exact bind_up fun d => by rw [NtG.h (f := tg)]; exact bind_up fun e => rfl⟩
instance nt_sApp [Nt fa fa'] : Nt (sApp i fa) (sApp i fa') := ⟨fun η w => by
  unfold sApp
  cases ownL η i with
  | none => rfl
  | some xs => dsimp only; rw [Nt.h (f := fa)]; exact bind_up fun d => by split <;> rfl⟩
instance nt_sExt [Nt fa fa'] : Nt (sExt i fa) (sExt i fa') := ⟨fun η w => by
  unfold sExt
  cases ownL η i with
  | none => rfl
  | some xs =>
    dsimp only
    rw [Nt.h (f := fa)]
    exact bind_up fun d => by
      cases d with
      | list ys => dsimp only; split <;> rfl
      | _ => rfl⟩
instance nt_tgSub [Nt fa fa'] : NtG (tgSub i fa) (tgSub i fa') := ⟨fun d η w => by
  unfold tgSub
  cases ownL η i with
  | none => rfl
  | some xs =>
    dsimp only
    rw [Nt.h (f := fa)]
    exact bind_up fun k => by
      cases k with
      | int k => dsimp only; split <;> rfl
      | _ => rfl⟩
instance nt_sAug {op : D → D → Res D} [Nt fa fa'] : Nt (sAug i op fa) (sAug i op fa') := ⟨fun η w => by
  unfold sAug
  rcases η[i]? with _ | (_ | d | _ | _ | _) <;> try rfl
  dsimp only
  rw [Nt.h (f := fa)]
  exact bind_up fun y => by rw [lift_up]; exact bind_up fun z => rfl⟩
instance nt_mNil : Nt (mNil : FM W) mNil := ⟨fun η w => rfl⟩
instance nt_mFr [Nt fa fa'] [Nt fm fm'] : Nt (mFr fa fm) (mFr fa' fm') := ⟨fun η w => by unfold mFr; rw [Nt.h (f := fa)]; exact bind_up fun d => by rw [Nt.h (f := fm)]; exact bind_up fun sl => rfl⟩
instance nt_mOw [Nt fa fa'] [Nt fm fm'] : Nt (mOw fa fm) (mOw fa' fm') := ⟨fun η w => by unfold mOw; rw [Nt.h (f := fa)]; exact bind_up fun d => by rw [Nt.h (f := fm)]; exact bind_up fun sl => rfl⟩
instance nt_sPar [Nt fm fm'] : Nt (sPar i j fm) (sPar i j fm') := ⟨fun η w => by unfold sPar; rw [Nt.h (f := fm)]; exact bind_up fun sl => by rcases sl with _ | ⟨a, _ | ⟨b, _ | ⟨c, r⟩⟩⟩ <;> rfl⟩
/-- a part that leaves it alone, run -/
theorem Nt.ok {f : EnvD → W → Res (α × W)} {f' : EnvD → Unit → Res (α × Unit)} [Nt f f'] {η : EnvD} {a : α} (e : f' η () = .ok (a, ())) (w : W) : f η w = .ok (a, w) := by rw [Nt.h (f := f), e]; rfl
end
end Cw

set_option autoImplicit true
namespace Cw
open PySem PySem.Spec PyProof.Rows L2
/-! ### numbers read from data, and back -/
def iD (n : Nat) : D := .int (n : Int)
def pN : D → Option Nat
  | .int (.ofNat n) => some n
  | _ => none
theorem pN_eq {d : D} {n : Nat} (h : pN d = some n) : d = iD n := by
  cases d with
  | int i => cases i with
    | ofNat m => cases h; rfl
    | negSucc m => cases h
  | _ => cases h
def pL {α : Type} (p : D → Option α) : List D → Option (List α)
  | [] => some []
  | d :: r => match p d, pL p r with
    | some a, some as => some (a :: as)
    | _, _ => none
theorem pL_eq {α : Type} {p : D → Option α} {e : α → D} (h : ∀ d a, p d = some a → d = e a) : ∀ {ds : List D} {as : List α}, pL p ds = some as → ds = as.map e
  | [], as, q => by cases q; rfl
  | d :: r, as, q => by
    unfold pL at q
    split at q
    · rename_i a as' h1 h2
      cases q
      rw [h d a h1, pL_eq h h2]; rfl
    · cases q
def pP : D → Option (Nat × Nat)
  | .tuple [.int (.ofNat a), .int (.ofNat b)] => some (a, b)
  | _ => none
def eP (x : Nat × Nat) : D := .tuple [iD x.1, iD x.2]
theorem pP_eq {d : D} {x : Nat × Nat} (h : pP d = some x) : d = eP x := by
  unfold pP at h
  split at h
  · cases h; rfl
  · cases h
def eLt (l : List Nat) : D := .tuple (l.map iD)
def pLt : D → Option (List Nat)
  | .tuple xs => pL pN xs
  | _ => none
theorem pLt_eq {d : D} {x : List Nat} (h : pLt d = some x) : d = eLt x := by
  cases d with
  | tuple xs => unfold eLt; rw [pL_eq (fun _ _ => pN_eq) h]
  | _ => cases h
/-! ### loops, walked -/
section
variable {W : Type}
theorem forL_inv {σ : Type} {tg : TgF W} {g : FS W} {w : W} (P : σ → EnvD → Prop) (step : σ → D → σ) : ∀ (ds : List D) (s : σ) (η : EnvD),
    (∀ d ∈ ds, ∀ s η, P s η → ∃ η', bindM (tg d η w) (fun η1 w1 => g η1 w1) = .ok (.nx η', w) ∧ P (step s d) η') → P s η → ∃ η', forL tg g ds η w = .ok (.nx η', w) ∧ P (ds.foldl step s) η'
  | [], s, η, h, p => ⟨η, rfl, p⟩
  | d :: r, s, η, h, p => by
    obtain ⟨η1, e, p1⟩ := h d (List.mem_cons_self ..) s η p
    obtain ⟨η2, e2, p2⟩ := forL_inv P step r (step s d) η1 (fun d hd => h d (List.mem_cons_of_mem _ hd)) p1
    refine ⟨η2, ?_, p2⟩
    rw [← e2]
    show bindM (tg d η w) (fun η1 w1 => bindM (g η1 w1) _) = _
    revert e
    generalize tg d η w = r0
    intro e
    match r0, e with
    | .ok (a, w1), e =>
      show bindM (g a w1) _ = _
      rw [show g a w1 = .ok (.nx η1, w) from e]; rfl
    | .exc c, e => cases e
    | .stk, e => cases e
theorem lcL_map {own : List Nat} {i : Nat} {ft : FT W} {fe : FE W} {η : EnvD} {w : W} (g : D → Option D) : ∀ (ds : List D),
    (∀ d ∈ ds, ft ((wipeD η own).set i (.fr d)) w = .ok ((g d).isSome, w) ∧ ∀ y, g d = some y → fe ((wipeD η own).set i (.fr d)) w = .ok (y, w)) → lcL own (tgN i) ft fe ds η w = .ok (ds.filterMap g, w)
  | [], h => rfl
  | d :: r, h => by
    obtain ⟨h1, h2⟩ := h d (List.mem_cons_self ..)
    have ih := lcL_map (own := own) (i := i) (ft := ft) (fe := fe) (η := η) (w := w) g r fun d hd => h d (List.mem_cons_of_mem _ hd)
    show bindM (ft ((wipeD η own).set i (.fr d)) w) _ = _
    rw [h1]
    cases e : g d with
    | none => rw [List.filterMap_cons_none e]; exact ih
    | some y =>
      rw [List.filterMap_cons_some e]
      show bindM (fe ((wipeD η own).set i (.fr d)) w) _ = _
      rw [h2 y e]
      show bindM (lcL own (tgN i) ft fe r η w) _ = _
      rw [ih]; rfl
end
theorem atI_nat {α : Type} {xs : List α} {p : Nat} (h : p < xs.length) : L2.atI xs (p : Int) = some xs[p] := by
  unfold L2.atI L2.ixN
  rw [if_pos (Int.natCast_nonneg p), if_pos (by omega)]
  simp [h]
theorem ixN_nat {n p : Nat} (h : p < n) : L2.ixN n (p : Int) = some p := by
  unfold L2.ixN
  rw [if_pos (Int.natCast_nonneg p), if_pos (by omega)]
  simp
theorem ixD_list {xs : List D} {p : Nat} (h : p < xs.length) : ixD (.list xs) (iD p) = .ok (xs[p]) := by
  unfold ixD iD
  simp only [atI_nat h]
theorem ixD_tup {xs : List D} {p : Nat} (h : p < xs.length) : ixD (.tuple xs) (iD p) = .ok (xs[p]) := by
  unfold ixD iD
  simp only [atI_nat h]
theorem rgD_nat (n : Nat) : rgD 0 (n : Int) = (List.range n).map iD := by
  unfold rgD iD
  simp
section
variable {W : Type} {η η1 η2 : EnvD} {w w1 w2 w3 : W} {fa fb fc fe : FE W} {ft : FT W} {fs : FA W} {ga gb : FS W} {fi : FI W} {tg : TgF W} {a b c d : D} {ds es : List D}
theorem e2_ok {f : D → D → Res D} (h1 : fa η w = .ok (a, w1)) (h2 : fb η w1 = .ok (b, w2)) (h3 : f a b = .ok d) : e2 f fa fb η w = .ok (d, w2) := by
  unfold e2; rw [h1]; show Cw.bindM (fb η w1) _ = _; rw [h2]; show Cw.liftM (f a b) w2 = _; rw [h3]; rfl
theorem e1_ok {f : D → Res D} (h1 : fa η w = .ok (a, w1)) (h3 : f a = .ok d) : e1 f fa η w = .ok (d, w1) := by
  unfold e1; rw [h1]; show Cw.liftM (f a) w1 = _; rw [h3]; rfl
theorem aCons_ok (h1 : fa η w = .ok (a, w1)) (h2 : fs η w1 = .ok (ds, w2)) : aCons fa fs η w = .ok (a :: ds, w2) := by
  unfold aCons; rw [h1]; show Cw.bindM (fs η w1) _ = _; rw [h2]; rfl
theorem eFn_ok {f : List D → Res D} (h1 : fs η w = .ok (ds, w1)) (h3 : f ds = .ok d) : eFn f fs η w = .ok (d, w1) := by
  unfold eFn; rw [h1]; show Cw.liftM (f ds) w1 = _; rw [h3]; rfl
theorem eCall_ok {f : List D → Res D} (h1 : fs η w = .ok (ds, w1)) (h3 : f ds = .ok d) : eCall f fs η w = .ok (d, w1) := by
  unfold eCall; rw [h1]; show Cw.liftM (f ds) w1 = _; rw [h3]; rfl
theorem eLc_ok {own : List Nat} {fe : FE W} (h1 : fi η w = .ok (ds, w1)) (h2 : lcL own tg ft fe ds η w1 = .ok (es, w2)) : eLc fi own tg ft fe η w = .ok (.list es, w2) := by
  unfold eLc; rw [h1]; show Cw.bindM (lcL own tg ft fe ds η w1) _ = _; rw [h2]; rfl
theorem sSeq_ok {r : Res (Out × W)} (h1 : ga η w = .ok (.nx η1, w1)) (h2 : gb η1 w1 = r) : sSeq ga gb η w = r := by
  unfold sSeq; rw [h1]; exact h2
theorem sSet_ok {i : Nat} (h1 : fa η w = .ok (a, w1)) : sSet i fa η w = .ok (.nx (η.set i (.fr a)), w1) := by
  unfold sSet; rw [h1]; rfl
theorem sSetN_ok {i : Nat} (h1 : fa η w = .ok (a, w1)) : sSetN i fa η w = .ok (.nx (η.set i (.ow a)), w1) := by
  unfold sSetN; rw [h1]; rfl
theorem sRet_ok (h1 : fa η w = .ok (a, w1)) : sRet fa η w = .ok (.rt a, w1) := by
  unfold sRet; rw [h1]; rfl
theorem sFor_ok {r : Res (Out × W)} (h1 : fi η w = .ok (ds, w1)) (h2 : forL tg ga ds η w1 = r) : sFor fi tg ga η w = r := by
  unfold sFor; rw [h1]; exact h2
theorem iSeq_list (h1 : fa η w = .ok (.list ds, w1)) (h2 : okLen ds.length = true) : iSeq fa η w = .ok (ds, w1) := by
  unfold iSeq; rw [h1]; show chk ds w1 = _; unfold chk; rw [h2]
theorem iSeq_tup (h1 : fa η w = .ok (.tuple ds, w1)) (h2 : okLen ds.length = true) : iSeq fa η w = .ok (ds, w1) := by
  unfold iSeq; rw [h1]; show chk ds w1 = _; unfold chk; rw [h2]
theorem iRg1_ok {n : Nat} (h1 : fa η w = .ok (iD n, w1)) (h2 : n ≤ 1000000) : iRg1 (aCons fa aNil) η w = .ok ((List.range n).map iD, w1) := by
  unfold iRg1; rw [aCons_ok h1 (show aNil η w1 = .ok ([], w1) from rfl)]
  show (match decide ((n : Int) ≤ 1000000) && decide (-1000000 ≤ (n : Int)) with | true => _ | false => _) = _
  rw [decide_eq_true (by omega), decide_eq_true (by omega), ← rgD_nat]
  rfl
theorem asg_sub {i : Nat} {k : Nat} {xs : List D} (h1 : fa η w = .ok (a, w1)) (h2 : η[i]? = some (.ow (.list xs))) (h3 : fb η w1 = .ok (iD k, w2)) (h4 : k < xs.length) : sAsg fa (tgSub i fb) η w = .ok (.nx (η.set i (.ow (.list (xs.set k a)))), w2) := by
  have e : tgSub i fb a η w1 = .ok (η.set i (.ow (.list (xs.set k a))), w2) := by
    unfold tgSub ownL
    rw [h2]
    show Cw.bindM (fb η w1) _ = _
    rw [h3]
    show (match ixN xs.length (k : Int) with | some j => _ | none => _) = _
    rw [ixN_nat h4]
  unfold sAsg; rw [h1]; show Cw.bindM (tgSub i fb a η w1) _ = _; rw [e]; rfl
theorem runF_rt {n N : Nat} {g : FS Unit} (hn : Nat.beq ds.length n = true) (h : g (ds.map Slot.fr ++ List.replicate (N - n) Slot.un) () = .ok (.rt d, ())) : runF n N g ds = .ok d := by
  unfold runF; rw [hn]; dsimp only; rw [h]
end
theorem modD_nat {a b : Nat} (h : 0 < b) : modD (iD a) (iD b) = .ok (iD (a % b)) := by
  unfold modD iD
  dsimp only
  rw [decide_eq_true (show (0 : Int) < b by omega)]
  rfl
theorem addD_nat (a b : Nat) : addD (iD a) (iD b) = .ok (iD (a + b)) := rfl
theorem okLen_of {n : Nat} (h : n ≤ 1000000) : okLen n = true := by unfold okLen; exact Nat.ble_eq_true_of_le h
theorem filterMap_all {α β : Type} (f : α → β) (l : List α) : l.filterMap (fun x => some (f x)) = l.map f := by
  induction l with
  | nil => rfl
  | cons a r ih => simp [ih]
end Cw

set_option autoImplicit true
namespace Cw
open PySem PySem.Spec PyProof.Rows L2 LamX NdefX
/-! ### a lambda as a value: its object, what a call of it is worth -/
/-- the lambda's words (the place of a def's statements stays empty) and its expression -/
structure Lm where
  nf : NF
  e : Expr
abbrev Lm.obj (F : Lm) (pm ctv : Value) : Obj := PySem.W.kla_obj F.nf.name F.nf.qual F.nf.params F.e F.nf.scope F.nf.cl pm F.nf.c ctv
def IsLm (f : Addr) (F : Lm) (h : Heap) : Prop := ∃ (sl : Array (Option Value)) (pm ctv : Value), h.get? f = some { F.obj pm ctv with slots := sl }
/-- what a call of the lambda at f promises -/
structure LOk (P : Program) (w : World) (K : PySem.W.Frag) (mg : Str → Option Value) (base : Heap) (k : Nat) (f : Addr) (F : Lm) (ps fr : List Str) (sp : List (Option V) → Sp) : Prop where
  run : ∀ (A : Around) (outer : List Env) (s : Shared) (H : Hp) (us : List Value) (vs : List V) (ws : List (Option V)) (Q : VK) (E : XK), Room k A → Env0 P w K mg base A outer s H → IsLm f F s.heap → H F.nf.c = some (CodeO F.nf.c F.nf.qual) →
    CellsAt F.nf.cl fr ws s.heap H → vs.length = ps.length → Vals vs us → sp ws vs H Q E → codeAny (model P w) A (.call (.ref f) ⟨us, []⟩) (CR CX0 outer P w H s Q E) s
section
variable {P : Program} {w : World} {K : PySem.W.Frag} {mg : Str → Option Value} {base : Heap} {N ps fr : List Str} {F : Lm} {f : Addr} {k : Nat} {sp : List (Option V) → Sp}
theorem lok_of (S : NScope N ps fr F.nf.scope) (hb : ∀ (pm ctv : Value) (us : List Value), us.length = ps.length → bindArgs (PySem.W.kla_fn F.nf.name F.nf.qual F.nf.params F.e F.nf.scope F.nf.cl pm (.ref F.nf.c) ctv) ⟨us, []⟩ = pure (ps.zip us))
    (hbody : ∀ (A : Around) (outer : List Env) (s : Shared) (H : Hp) (vs : List V) (ws : List (Option V)) (Q : VK) (E : XK), Room k (A.deeper (envF F.nf f s.heap.objs.size)) → ws.length = fr.length → sp ws vs H Q E →
      ∃ t, PE (ncx CX0 P w K mg base N F.nf f A outer s H E) F.e t ∧ t (startF N vs ws) H Q) :
    LOk P w K mg base (k + 1) f F ps fr sp := by
  refine ⟨fun A outer s H us vs ws Q E hr e0 hf hc C hl r hsp => ?_⟩
  have lim : s.heap.NoLimit := e0.mod.nolimit.keeps fun b o e => (e0.bs b o e).1
  obtain ⟨sl, pm, ctv, ho⟩ := hf
  refine PySem.W.kla_callFunE hr.depth ho rfl S.co S.gen rfl (codeO_at e0.hok hc) ?_
  rw [hb pm ctv us (by rw [← r.length]; exact hl)]
  refine wpAny_pure (wpAny_newFunctionEnv S.nocell (fun ⟨n, _⟩ hy => S.par n (List.of_mem_zip hy).1) (fun h₁ hns hsb => ⟨lim.fresh _ hsb, ?_⟩) S.kind)
  have kp : ∀ b o, s.heap.get? b = some o → h₁.get? b = some o := fun b o z => hsb.extBut b o (Nat.ne_of_lt (Heap.lt_size z)) (Heap.get?_push_of_some _ z)
  obtain ⟨t, ht, hq⟩ := hbody A outer s H vs ws Q E (hr.deeper _) C.len hsp
  have J : Inv (ncx CX0 P w K mg base N F.nf f A outer s H E) [] (startF N vs ws) H { s with heap := h₁, toks := s.toks + (ps.zip us).length } := inv_startN S hr.hd e0 hl r C hns kp
  show codeAny _ _ (.expr F.e (envF F.nf f s.heap.objs.size)) _ _
  refine PySem.W.kla_codeExpr (wpAny_mono (ht.run [] _ (startF N vs ws) H Q J hq) (fun v s' z => ?_) fun e s' z => z)
  obtain ⟨v', H', I', rv, q⟩ := z
  exact ⟨v', H', I'.os, I'.bare, I'.base, I'.hok, rv, q⟩
end

/-! ### the lambda called by the def that got it: Z is that def's context -/
section
variable {Z : Cx} {pins : List (Addr × Obj)} {σ : L2.St} {H : Hp} {s : Shared} {cl : List (Str × Addr)} {fr ps : List Str} {ws : List (Option V)} {f : Addr} {F : Lm} {i j k : Nat} {sp : List (Option V) → Sp} {x : Str} {e : Expr} {es : List Expr} {t : TA} {p pos : Pos}
/-- cells that no one tracks hold what they held -/
theorem cells_later (C : CellsAt cl fr ws Z.s_0.heap Z.H_0) (hx : Z.ex = []) (I : Inv Z pins σ H s) : CellsAt cl fr ws s.heap H := by
  have nx : ∀ b : Addr, b ∉ Z.ex := fun b z => by rw [hx] at z; cases z
  have kp : ∀ y c, cl.lookup y = some c → ∀ v, Z.s_0.heap.IsCell c v → s.heap.IsCell c v := fun y c q v ⟨o, ho, hd⟩ => by
    obtain ⟨sl, z⟩ := I.base.any ho (C.all y c q).1 (nx c)
    exact ⟨_, z, hd⟩
  constructor
  · exact C.len
  · intro y c q
    obtain ⟨n, v, z⟩ := C.all y c q
    have z2 := z
    obtain ⟨o, ho, _⟩ := z2
    exact ⟨I.base.free c o ho n (nx c), v, kp y c q v z⟩
  · exact C.inj
  · intro n y q
    obtain ⟨c, hc, hv⟩ := C.has n y q
    exact ⟨c, hc, fun v z => (hv v z).elim fun u hu => ⟨u, hu.1, kp y c hc _ hu.2⟩⟩
theorem isLm_later (h : IsLm f F Z.s_0.heap) (hf : Z.H_0 f = none) (hx : Z.ex = []) (I : Inv Z pins σ H s) : IsLm f F s.heap := by
  obtain ⟨sl, pm, ctv, q⟩ := h
  obtain ⟨sl', z⟩ := I.base.any q hf (fun z => by rw [hx] at z; cases z)
  exact ⟨sl', pm, ctv, z⟩
def tCallV (i : Nat) (f : Addr) (F : Lm) (n : Nat) (sp : Sp) (t : TA) : TE := fun σ H Q => σ[i]? = some (some (.ref f)) ∧ t σ H fun vs H1 => H1 F.nf.c = some (CodeO F.nf.c F.nf.qual) ∧ vs.length = n ∧ sp vs H1 Q E0
theorem pe_callV (L : LOk Z.prog Z.w Z.K Z.mg Z.base k f F ps fr sp) (hr : Room j Z.A) (hk : k ≤ j) (h : IsLm f F Z.s_0.heap) (hf : Z.H_0 f = none) (C : CellsAt F.nf.cl fr ws Z.s_0.heap Z.H_0) (hx : Z.ex = []) (hN : Z.N[i]? = some x) (hv : Vis Z.env.scope x) (ha : PA Z (e :: es) t)
    (hd : (x == ("__debug__" : Str)) = false) (hcd : (x == ("__classdict__" : Str)) = false) (he : starEach (e :: es) Z.env = (false, eval e Z.env) :: starEach es Z.env) (hpl : (backTo pos (starEach es Z.env)).any (·.1) = false) :
    PE Z (.Call (.Name x p) (e :: es) [] pos) (tCallV i f F ps.length (sp ws) t) := by
  refine ⟨fun pins s σ H Q I q => ?_⟩
  obtain ⟨hs, ht⟩ := q
  refine wpAny_Call_Name_kw (thn ((pe_var (pos := p) hN hv hd hcd).run pins s σ H (fun v H1 => v = .ref f ∧ H1 = H) I ⟨.ref f, hs, rfl, rfl⟩) fun u s1 ⟨v, H1, I1, r1, q1⟩ => ?_)
  obtain ⟨rfl, rfl⟩ := q1
  cases r1
  have at1 : PySem.W.FnAt f s1.heap := by
    obtain ⟨sl, pm, ctv, z⟩ := isLm_later h hf hx I1
    exact ⟨_, _, _, _, z⟩
  refine PySem.W.callWith_F (first := []) at1 (thn (ha.run pos pins s1 σ _ _ I1 ht) fun us s2 ⟨vs, H2, I2, r, h1, h2, q⟩ => ⟨?_, ?_⟩) he hpl
  · obtain ⟨sl, pm, ctv, z⟩ := isLm_later h hf hx I2
    exact ⟨_, _, _, _, z⟩
  · refine wpAny_call (codeAny_mono (L.run Z.A Z.stack s2 H2 us vs ws Q E0 (hr.mono hk) I2.env0 (isLm_later h hf hx I2) h1 (cells_later C hx I2) h2 r q) fun r s' z => ?_)
    match r, z with
    | .error e, z => exact z.elim
    | .ok (.ret u), z => exact I2.after z
    | .ok .next, z => exact z.elim
    | .ok .brk, z => exact z.elim
    | .ok .cont, z => exact z.elim
end

/-! ### the lambda made -/
section
variable {X : Cx} {pins : List (Addr × Obj)} {σ : L2.St} {H : Hp} {s : Shared}
/-- the lambda that the def of the context makes, its code object at c' -/
abbrev mkLm (X : Cx) (params : Arguments) (body : Expr) (scope : Scope) (c' : Addr) : Lm := ⟨⟨"<lambda>", X.env.qual ++ "<lambda>", params, [], scope, cloFrom X.env.cells scope.names [], c'⟩, body⟩
theorem lam_mk {T : List (Addr × Str)} {c P : Addr} {params : Arguments} {body : Expr} {scope : Scope} {pos : Pos} {E : Value → Shared → Prop} {Q : Value → Shared → Prop} (I : Inv X pins σ H s) (TB : TabB X.base X.mg c P) (hcode : X.env.code = .ref c)
    (hm : (P, X.env.qual ++ "<lambda>") ∈ T) (hu : ∀ p ∈ T, p.1 = P → p.2 = X.env.qual ++ "<lambda>") (hT : Tabs T H) (hdef : defaultsOf params X.env = ([], [])) (hfree : ∀ y ∈ scope.names, y.2 = .free → ∃ c, X.env.cells.lookup y.1 = some c)
    (h : ∀ (f c' : Addr) (H1 : Hp) (s' : Shared), Inv X pins σ H1 s' → (∀ b o, b ≠ P → H b = some o → H1 b = some o) → Tabs T H1 → IsLm f (mkLm X params body scope c') s'.heap → s.heap.objs.size ≤ f → H1 f = none → H1 c' = some (CodeO c' (X.env.qual ++ "<lambda>")) → Q (.ref f) s') :
    wpAny (model X.prog X.w) X.A (eval (.Lambda params body scope pos) X.env) Q E s := by
  obtain ⟨ps, tabP, trip, known⟩ := hT _ hm
  have memP := I.hok P _ tabP
  have boot := TB.bm.keeps I.bk
  have head := TB.code.keeps I.bk
  have main := I.mod.glob.keeps I.bk
  refine PySem.W.kla_eval hdef ?_
  cases e0 : codeAmong pos ps.toList with
  | some cv =>
    obtain ⟨c', rfl, hco⟩ := known pos cv e0
    refine PySem.W.kla_makeFunctionHit (closure_ok hfree) I.ok.glob main hcode head memP trip e0 boot fun ctv h' tk hx hsz => ?_
    refine h _ c' H _ (I.kept fun b o z => Heap.get?_push_of_some _ (hx b o z)) (fun _ _ _ z => z) hT ⟨_, _, ctv, Heap.get?_push_size _ rfl⟩ hsz ?_ hco
    have old : Inv X pins σ H { s with heap := h' } := I.kept hx
    exact old.hok.fresh (Nat.le_refl _)
  | none =>
    refine PySem.W.kla_makeFunction (closure_ok hfree) I.ok.glob main hcode head memP trip e0 TB.gP boot fun c' ctv h' tk hx hge hlt hrec htb => ?_
    obtain ⟨c2, oc, vs, t, ec, hoc, hd, hv⟩ := hrec
    cases ec
    have newC : H c' = none := I.hok.fresh hge
    have up : ∀ {b : Addr} {o : Obj} (x : Obj), h'.get? b = some o → (h'.push x).get? b = some o := fun x z => Heap.get?_push_of_some x z
    generalize hx0 : PySem.W.kla_obj "<lambda>" (X.env.qual ++ "<lambda>") params body scope (cloFrom X.env.cells scope.names []) ((X.mg "__name__").getD .none) c' ctv = ob
    have J := inv_table (t' := tk) (more := #[rawInt pos.line, rawInt pos.col, .ref c']) (h' := h'.push ob) I tabP (fun b o n z => up ob (hx b o n z)) (up ob htb) hge ⟨oc, vs, t, up ob hoc, hd, hv⟩
    have stay : ∀ b o, b ≠ P → H b = some o → upd (upd H P (.tbl (ps ++ #[rawInt pos.line, rawInt pos.col, .ref c']))) c' (CodeO c' (X.env.qual ++ "<lambda>")) b = some o := fun b o n z => by
      rw [upd_ne (ne_of_none z newC), upd_ne n]
      exact z
    have notP : ∀ b q, H b = some (CodeO b q) → b ≠ P := fun b q z y => by
      rw [y, tabP] at z
      exact codeO_ne _ (Option.some.inj z).symm
    refine h h'.objs.size c' _ _ J stay (fun p hp => ?_) ⟨_, _, ctv, by rw [← hx0]; exact Heap.get?_push_size _ rfl⟩ (Nat.le_trans hge (Nat.le_of_lt hlt)) ?_ upd_same
    · by_cases eb : p.1 = P
      · rw [hu p hp eb, eb]
        have el : (ps ++ #[rawInt pos.line, rawInt pos.col, .ref c']).toList = ps.toList ++ [rawInt pos.line, rawInt pos.col, .ref c'] := by simp
        refine ⟨_, by rw [upd_ne (ne_of_none tabP newC)]; exact upd_same, by rw [el]; exact PySem.TriplesOk_snoc _ _ _ _ trip, fun p' cv z => ?_⟩
        rw [el] at z
        rcases among_app _ trip z with z | z
        · obtain ⟨c0, y, hy⟩ := known p' cv z
          exact ⟨c0, y, stay _ _ (notP _ _ hy) hy⟩
        · exact ⟨c', z, upd_same⟩
      · obtain ⟨qs, y1, y2, y3⟩ := hT p hp
        refine ⟨qs, stay _ _ eb y1, y2, fun p' cv z => ?_⟩
        obtain ⟨c0, y, hy⟩ := y3 p' cv z
        exact ⟨c0, y, stay _ _ (notP _ _ hy) hy⟩
    · have a1 : h'.objs.size ≠ c' := Nat.ne_of_gt hlt
      have a2 : h'.objs.size ≠ P := Nat.ne_of_gt (Nat.lt_of_lt_of_le (Heap.lt_size memP) (Nat.le_trans hge (Nat.le_of_lt hlt)))
      rw [upd_ne a1, upd_ne a2]
      exact I.hok.fresh (Nat.le_trans hge (Nat.le_of_lt hlt))
end
end Cw

set_option autoImplicit false
namespace Cw
open PySem PySem.Spec PyProof.Rows L2
open PySem.W (alike alikeAll dataLt keyToks keyToksAll dataLe AllAlike EachIs)

/-! ### the order of data -/
mutual
def ltX : D → D → Bool
  | .bool a, .bool b => !a && b
  | .int a, .int b => decide (a < b)
  | .str a, .str b => dataLt (.str a) (.str b)
  | .list xs, .list ys => ltXs xs ys
  | .tuple xs, .tuple ys => ltXs xs ys
  | _, _ => false
def ltXs : List D → List D → Bool
  | [], [] => false
  | [], _ :: _ => true
  | _ :: _, [] => false
  | x :: xs, y :: ys => match PyData.eqv x y with
    | true => ltXs xs ys
    | false => ltX x y
end
mutual
theorem lt_ltX : ∀ x y : D, alike x y = true → dataLt x y = ltX x y
  | .none, y, h => by
    cases y with
    | none => simp [dataLt, keyToks, ltX, PyProof.Rows.lexLt]
    | _ => exact absurd h (by simp [alike])
  | .bool a, y, h => by
    cases y with
    | bool b => unfold ltX; cases a <;> cases b <;> decide
    | _ => exact absurd h (by simp [alike])
  | .int a, y, h => by
    cases y with
    | int b => rw [PySem.W.dataLt_int]; unfold ltX; rfl
    | _ => exact absurd h (by simp [alike])
  | .str a, y, h => by
    cases y with
    | str b => unfold ltX; rfl
    | _ => exact absurd h (by simp [alike])
  | .list xs, y, h => by
    cases y with
    | list ys => unfold ltX; exact lt_ltXs xs ys (by simpa [alike] using h)
    | _ => exact absurd h (by simp [alike])
  | .tuple xs, y, h => by
    cases y with
    | tuple ys => unfold ltX; exact lt_ltXs xs ys (by simpa [alike] using h)
    | _ => exact absurd h (by simp [alike])
  | .dict _, y, h => absurd h (by cases y <;> simp [alike])
theorem lt_ltXs : ∀ xs ys : List D, alikeAll xs ys = true → PyProof.Rows.lexLt itemOrd (keyToksAll xs) (keyToksAll ys) = ltXs xs ys
  | [], [], _ => by unfold ltXs; exact lex_irrefl _
  | [], y :: ys, _ => by
    rw [PySem.W.toks_all_cons]; unfold keyToksAll ltXs
    rw [lex_diff (O := itemOrd) (by simp)]; decide
  | x :: xs, [], _ => by
    rw [PySem.W.toks_all_cons]; unfold keyToksAll ltXs
    rw [lex_diff (O := itemOrd) (by simp)]; decide
  | x :: xs, y :: ys, h => by
    obtain ⟨h1, h2⟩ := PySem.W.alike_all_cons h
    unfold ltXs
    cases e : PyData.eqv x y with
    | true => rw [PySem.W.dataLt_all_yes h1 e]; exact lt_ltXs xs ys h2
    | false => rw [PySem.W.dataLt_all_no h1 e]; exact lt_ltX x y h1
end
mutual
theorem alike_eqv_eq : ∀ x y : D, alike x y = true → PyData.eqv x y = true → x = y
  | .none, y, h, _ => by
    cases y with
    | none => rfl
    | _ => exact absurd h (by simp [alike])
  | .bool a, y, h, e => by
    cases y with
    | bool b => simp [PyData.eqv] at e; rw [e]
    | _ => exact absurd h (by simp [alike])
  | .int a, y, h, e => by
    cases y with
    | int b => simp [PyData.eqv] at e; rw [e]
    | _ => exact absurd h (by simp [alike])
  | .str a, y, h, e => by
    cases y with
    | str b => simp [PyData.eqv] at e; rw [e]
    | _ => exact absurd h (by simp [alike])
  | .list xs, y, h, e => by
    cases y with
    | list ys => rw [alikeAll_eqv_eq xs ys (by simpa [alike] using h) (by simpa [PyData.eqv] using e)]
    | _ => exact absurd h (by simp [alike])
  | .tuple xs, y, h, e => by
    cases y with
    | tuple ys => rw [alikeAll_eqv_eq xs ys (by simpa [alike] using h) (by simpa [PyData.eqv] using e)]
    | _ => exact absurd h (by simp [alike])
  | .dict _, y, h, _ => absurd h (by cases y <;> simp [alike])
theorem alikeAll_eqv_eq : ∀ xs ys : List D, alikeAll xs ys = true → PyData.eqvAll xs ys = true → xs = ys
  | [], [], _, _ => rfl
  | [], y :: ys, _, e => by simp [PyData.eqvAll] at e
  | x :: xs, [], _, e => by simp [PyData.eqvAll] at e
  | x :: xs, y :: ys, h, e => by
    obtain ⟨h1, h2⟩ := PySem.W.alike_all_cons h
    rw [PySem.W.eqv_all_cons, Bool.and_eq_true] at e
    rw [alike_eqv_eq x y h1 e.1, alikeAll_eqv_eq xs ys h2 e.2]
end
theorem dataLt_anti {x y : D} (h : alike x y = true) (h1 : dataLt x y = false) (h2 : dataLt y x = false) : x = y := by
  cases e : PyData.eqv x y with
  | true => exact alike_eqv_eq x y h e
  | false =>
    exfalso
    have t : keyToks x = keyToks y := lex_total (O := itemOrd) _ _ h1 h2
    have z := (PySem.W.toks_eqv x y h).2 e [] [Sum.inl 0]
    rw [t, List.append_nil, lex_irrefl] at z
    have p : PyProof.Rows.lexLt itemOrd (keyToks y ++ []) (keyToks y ++ [Sum.inl 0]) = true := by rw [PySem.W.lex_pre]; rfl
    rw [List.append_nil, z] at p
    cases p
def insG (d : D) : List D → List D
  | [] => [d]
  | k :: r => match ltX k d with
    | true => k :: insG d r
    | false => d :: k :: r
def sortG : List D → List D
  | [] => []
  | d :: r => insG d (sortG r)
theorem insG_perm (d : D) : ∀ ds : List D, (insG d ds).Perm (d :: ds)
  | [] => .refl _
  | k :: r => by
    unfold insG
    split
    · exact ((insG_perm d r).cons k).trans (.swap _ _ _)
    · exact .refl _
theorem sortG_perm : ∀ ds : List D, (sortG ds).Perm ds
  | [] => .refl _
  | d :: r => (insG_perm d _).trans ((sortG_perm r).cons d)
theorem dataLt_trans {x y z : D} (h1 : dataLt y x = false) (h2 : dataLt z y = false) : dataLt z x = false := by
  cases e : dataLt z x with
  | false => rfl
  | true =>
    rcases (listOrd itemOrd).negTrans (keyToks z) (keyToks y) (keyToks x) e with q | q
    · rw [show dataLt z y = true from q] at h2; cases h2
    · rw [show dataLt y x = true from q] at h1; cases h1
theorem perm_eq {r : D → D → Prop} : ∀ (a b : List D), a.Perm b → a.Pairwise r → b.Pairwise r → (∀ x ∈ a, ∀ y ∈ a, r x y → r y x → x = y) → a = b
  | [], b, p, _, _, _ => by rw [List.Perm.nil_eq p]
  | x :: a, [], p, _, _, _ => by cases p.length_eq
  | x :: a, y :: b, p, ha, hb, an => by
    have ha' := List.pairwise_cons.mp ha
    have hb' := List.pairwise_cons.mp hb
    have e : x = y := by
      have h1 := p.mem_iff.mp (List.mem_cons_self (a := x) (l := a))
      have h2 := p.mem_iff.mpr (List.mem_cons_self (a := y) (l := b))
      rcases List.mem_cons.mp h1 with e | h1
      · exact e
      · rcases List.mem_cons.mp h2 with e | h2
        · exact e.symm
        · exact an x List.mem_cons_self y (List.mem_cons_of_mem _ h2) (ha'.1 y h2) (hb'.1 x h1)
    subst e
    rw [perm_eq a b p.cons_inv ha'.2 hb'.2 fun u hu v hv => an u (List.mem_cons_of_mem _ hu) v (List.mem_cons_of_mem _ hv)]
theorem insG_sorted (d : D) : ∀ ds : List D, (∀ k ∈ ds, alike k d = true) → ds.Pairwise (fun a b => dataLt b a = false) → (insG d ds).Pairwise (fun a b => dataLt b a = false)
  | [], _, _ => by simp [insG]
  | k :: r, al, h => by
    have h' := List.pairwise_cons.mp h
    have ek := lt_ltX k d (al k List.mem_cons_self)
    unfold insG
    split
    · rename_i e
      refine List.pairwise_cons.mpr ⟨fun a ha => ?_, insG_sorted d r (fun u hu => al u (List.mem_cons_of_mem _ hu)) h'.2⟩
      rcases List.mem_cons.mp ((insG_perm d r).mem_iff.mp ha) with rfl | ha
      · cases z : dataLt a k with
        | false => rfl
        | true =>
          rw [e] at ek
          have := (listOrd itemOrd).trans _ _ _ (show (listOrd itemOrd).blt (keyToks k) (keyToks a) = true from ek) (show (listOrd itemOrd).blt (keyToks a) (keyToks k) = true from z)
          rw [(listOrd itemOrd).irrefl] at this; cases this
      · exact h'.1 a ha
    · rename_i e
      rw [e] at ek
      refine List.pairwise_cons.mpr ⟨fun a ha => ?_, h⟩
      rcases List.mem_cons.mp ha with rfl | ha
      · exact ek
      · exact dataLt_trans ek (h'.1 a ha)
theorem sortG_sorted : ∀ ds : List D, AllAlike ds → (sortG ds).Pairwise (fun a b => dataLt b a = false)
  | [], _ => .nil
  | d :: r, al => insG_sorted d _ (fun k hk => al k (List.mem_cons_of_mem _ ((sortG_perm r).mem_iff.mp hk)) d List.mem_cons_self) (sortG_sorted r fun a ha b hb => al a (List.mem_cons_of_mem _ ha) b (List.mem_cons_of_mem _ hb))
theorem sortG_eq {ds : List D} (al : AllAlike ds) : ds.mergeSort (dataLe false id) = sortG ds := by
  have e : (dataLe false id : D → D → Bool) = fun a b => !dataLt b a := by rw [PySem.W.dataLe_eq]; rfl
  refine perm_eq (r := fun a b => dataLt b a = false) _ _ ((List.mergeSort_perm ds _).trans (sortG_perm ds).symm) ?_ (sortG_sorted ds al) fun x hx y hy h1 h2 => ?_
  · have q := List.pairwise_mergeSort (le := dataLe false id) (fun a b c h1 h2 => by
      rw [e] at h1 h2 ⊢
      simp only [Bool.not_eq_true'] at h1 h2 ⊢
      exact dataLt_trans h1 h2) (fun a b => by
      rw [e]
      simp only [Bool.or_eq_true, Bool.not_eq_true']
      cases z : dataLt b a with
      | false => exact .inl rfl
      | true =>
        refine .inr ?_
        cases z' : dataLt a b with
        | false => rfl
        | true =>
          have := (listOrd itemOrd).trans _ _ _ (show (listOrd itemOrd).blt (keyToks b) (keyToks a) = true from z) (show (listOrd itemOrd).blt (keyToks a) (keyToks b) = true from z')
          rw [(listOrd itemOrd).irrefl] at this; cases this) ds
    refine q.imp fun {a b} z => ?_
    rw [e] at z
    simpa using z
  · have hx' := (List.mergeSort_perm ds _).mem_iff.mp hx
    have hy' := (List.mergeSort_perm ds _).mem_iff.mp hy
    exact dataLt_anti (al x hx' y hy') h2 h1
end Cw

set_option autoImplicit false
namespace Cw
open PySem PySem.Spec PyProof.Rows L2
open PySem.W (alike alikeAll dataLt keyToks keyToksAll dataLe AllAlike EachIs Sortable dataKind sortingHeap)

section
variable {X : Cx} {pins : List (Addr × Obj)} {σ : L2.St} {H : Hp} {s : Shared}
theorem sorted_core {a : Addr} {ds : List D} {Pr : Value → D → Prop} {Q : Value → Shared → Prop} {E : Value → Shared → Prop}
    (col : ∀ R : List Value → Shared → Prop, (∀ (its : List Value) (h' : Heap) (tk : Nat), (∀ b o, s.heap.get? b = some o → h'.get? b = some o) → EachIs Pr its ds → EachIs (fun v d => ∃ as, Reads s.heap v d as) its ds → R its { s with heap := h', toks := tk }) → wpAny (model X.prog X.w) X.A.in1 (collect (.ref a)) R E s)
    (al : AllAlike ds) (so : Sortable ds) (hu : X.A.units + 64 < cLine) (dep : ∀ d ∈ ds, d.depth ≤ 60) (hl : ds.length ≤ sizeLine)
    (fin : ∀ (out : List Value) (h1 h' : Heap) (tk n : Nat), EachIs Pr out (sortG ds) → (∀ b o, s.heap.get? b = some o → h1.get? b = some o) → (∀ b o, h1.get? b = some o → h'.get? b = some o) → h'.get? h1.objs.size = some (seqObj "list" out.toArray n) → Q (.ref h1.objs.size) { s with heap := h', toks := tk }) :
    wpAny (model X.prog X.w) X.A (call (.builtin "sorted") [.ref a]) Q E s := by
  refine Calls.call_function_entry PyProof.Rows.kind_sorted PyProof.Rows.plain_sorted PyProof.Rows.entry_sorted (PyProof.Rows.args_sorted1 _) ?_
  unfold Builtin.«sorted»
  refine wpAny_bind (m := checkCount "sorted" 1 1 _) (wpAny_pure ?_)
  refine wpAny_bind (col _ fun its h' tk hk hp hr => ?_)
  have hlen : its.length = ds.length := hr.length
  refine wpAny_bind (wpAny_newList ?_ (by rw [hlen]; exact hl))
  have hoL : (h'.push (seqObj "list" its.toArray 0)).get? h'.objs.size = some (seqObj "list" its.toArray 0) := Heap.get?_push_size _ rfl
  have lt : ∀ {b : Addr} {o : Obj}, s.heap.get? b = some o → b < h'.objs.size := fun e => Heap.lt_size (hk _ _ e)
  show wpAny _ _ _ _ _ { s with heap := h'.push (seqObj "list" its.toArray 0), toks := tk }
  have er : EachIs (fun v d => ∃ as, Reads (sortingHeap (h'.push (seqObj "list" its.toArray 0)) h'.objs.size its) v d as) its ds := hr.mono fun _ _ ⟨as, r⟩ => ⟨as, PyProof.Rows.Reads.keeps (fun b o e => PySem.W.sortingHeap_old (Nat.ne_of_lt (lt e)) (Heap.get?_push_of_some _ (hk _ _ e))) r⟩
  have er0 : EachIs (fun v d => ∃ as, Reads (sortingHeap (h'.push (seqObj "list" its.toArray 0)) h'.objs.size its) v (id d) as) its ds := er
  refine wpAny_bind (wpAny_holding (wpAny_call_entry PyProof.Rows.slot_list_sort ⟨_, hoL, rfl⟩ PyProof.Rows.entry_list_sort
    (PySem.W.list_sort_vals (κ := dataKind (sortingHeap (h'.push (seqObj "list" its.toArray 0)) h'.objs.size its) ds) (s := { s with heap := h'.push (seqObj "list" its.toArray 0), toks := tk }) hoL
      (PySem.W.SortsAt.data (s := { s with heap := sortingHeap (h'.push (seqObj "list" its.toArray 0)) h'.objs.size its, toks := tk }) er al so fun d hd => ?_) (by rw [hlen]; exact hl) ⟨_, rfl, ?_⟩) (PyProof.Rows.args_list_sort _)))
  · have := dep d hd
    show X.A.units + 1 + 1 + d.depth < cLine
    omega
  have ho := PySem.W.sortVals_data (h' := sortingHeap (h'.push (seqObj "list" its.toArray 0)) h'.objs.size its) (enc := id) (bs := ds) false hp er0 (by rw [List.map_id]; exact al)
  rw [List.map_id, sortG_eq al] at ho
  obtain ⟨e', he'⟩ := PyProof.Rows.sortedHeap_at (vs := its) (out := (PySem.W.sortVals (dataKind (sortingHeap (h'.push (seqObj "list" its.toArray 0)) h'.objs.size its) ds) false its its).toArray) hoL
  refine wpAny_pure ⟨_, rfl, fin _ h' _ tk e' ho hk (fun b o e => ?_) he'⟩
  have lb : b < h'.objs.size := Heap.lt_size e
  rw [PyProof.Rows.sortedHeap_old (Nat.ne_of_lt lb) (by rw [size_push']; exact Nat.lt_succ_of_lt lb)]
  exact Heap.get?_push_of_some _ e
/-- what is sorted stands for ds; the sorted ones for the sorted ds -/
theorem each_vals {Pr : V → D → Prop} : ∀ {xs : List V} {ds : List D} {its : List Value}, Paired Pr xs ds → Vals xs its → EachIs (fun v d => ∃ x, L2.RelV x v ∧ Pr x d) its ds
  | _, _, _, .nil, .nil => .nil
  | _, _, _, .cons h t, .cons r rs => .cons ⟨_, r, h⟩ (each_vals t rs)
theorem vals_each {Pr : V → D → Prop} : ∀ {its : List Value} {ds : List D}, EachIs (fun v d => ∃ x, L2.RelV x v ∧ Pr x d) its ds → ∃ xs, Paired Pr xs ds ∧ Vals xs its
  | _, _, .nil => ⟨[], .nil, .nil⟩
  | _, _, .cons ⟨x, r, h⟩ t => by
    obtain ⟨xs, a, b⟩ := vals_each t
    exact ⟨x :: xs, .cons h a, .cons r b⟩
theorem each_reads (I : Inv X pins σ H s) : ∀ {xs : List V} {ds : List D} {its : List Value}, DpAll X.K H xs ds → Vals xs its → EachIs (fun v d => ∃ as, Reads s.heap v d as) its ds
  | _, _, _, .nil, .nil => .nil
  | _, _, _, .cons h t, .cons r rs => .cons (Dp.reads I _ _ _ h r) (each_reads I t rs)
theorem DpAll.len {K : PySem.W.Frag} : ∀ {xs : List V} {ds : List D}, DpAll K H xs ds → xs.length = ds.length
  | _, _, .nil => rfl
  | _, _, .cons _ t => by simp [DpAll.len t]
/-- the end: the new list is tracked -/
theorem sorted_fin (I : Inv X pins σ H s) {Pr : V → D → Prop} {ds : List D} {Q : VK} (hl : ds.length ≤ sizeLine) (q : ∀ (out : List V) (p : Addr), Paired Pr out ds → H p = none → Q (.ref p) (upd H p (.lst out))) (out : List Value) (h1 h' : Heap) (tk n : Nat)
    (e : EachIs (fun v d => ∃ x, L2.RelV x v ∧ Pr x d) out ds) (k1 : ∀ b o, s.heap.get? b = some o → h1.get? b = some o) (k2 : ∀ b o, h1.get? b = some o → h'.get? b = some o) (ho : h'.get? h1.objs.size = some (seqObj "list" out.toArray n)) :
    EP X pins σ Q (.ref h1.objs.size) { s with heap := h', toks := tk } := by
  obtain ⟨xs, pr, vs⟩ := vals_each e
  have I1 : Inv X pins σ H { s with heap := h1, toks := tk } := I.kept k1
  have lx : xs.length = ds.length := Paired.length pr
  exact ⟨.ref h1.objs.size, upd H h1.objs.size (.lst xs), I1.laid (t' := tk) k2 (Nat.le_refl _) (show ObjOk X.prog X.w _ _ _ (.lst xs) from ⟨by omega, out, n, vs, ho⟩), rfl, q xs _ pr (I1.hok.fresh (Nat.le_refl _))⟩
/-- sorted of a list, of a tuple -/
def rSortL (K : PySem.W.Frag) : List V → Hp → VK → Prop := fun vs H Q => ∃ (a : Addr) (xs : List V) (ds : List D) (Pr : V → D → Prop), vs = [.ref a] ∧ (SqL K H a xs ∨ SqT K H a xs) ∧ DpAll K H xs ds ∧ Paired Pr xs ds ∧ AllAlike ds ∧ Sortable ds ∧ (∀ d ∈ ds, d.depth ≤ 60) ∧ ds.length ≤ 1000000 ∧
  ∀ (out : List V) (p : Addr), Paired Pr out (sortG ds) → H p = none → Q (.ref p) (upd H p (.lst out))
theorem cr_sortL (hu : X.A.units + 64 < cLine) : CallR X (.builtin "sorted") (rSortL X.K) := by
  intro pins s σ H xs us Q I r h
  obtain ⟨a, xs, ds, Pr, rfl, hq, hd, hp, al, so, dep, hl, q⟩ := h
  obtain ⟨u, rfl, rx⟩ := vals1 r
  cases rx
  have hl' : ds.length ≤ sizeLine := by rw [sizeLine_eq]; omega
  have hs : (sortG ds).length ≤ sizeLine := by rw [(sortG_perm ds).length_eq]; exact hl'
  rcases hq with hq | hq
  · obtain ⟨its, r', pl, hz⟩ := I.list hq
    obtain ⟨o, ho, hc, n, hdt⟩ := pl.isList
    have le : its.length = ds.length := by have := r'.length; have := DpAll.len hd; omega
    refine sorted_core (Pr := fun v d => ∃ x, L2.RelV x v ∧ Pr x d) (fun R hR => wpAny_collect_seq a (.inl rfl) ho hc hdt (fun h' hk => hR its h' s.toks hk (each_vals hp r') (each_reads I hd r')) (by rw [List.size_toArray, le]; exact hl')) al so hu dep hl' ?_
    exact sorted_fin I hs q
  · obtain ⟨its, r', pl, hz⟩ := I.tuple hq
    obtain ⟨o, ho, hc, n, hdt⟩ := pl
    have le : its.length = ds.length := by have := r'.length; have := DpAll.len hd; omega
    refine sorted_core (Pr := fun v d => ∃ x, L2.RelV x v ∧ Pr x d) (fun R hR => wpAny_collect_seq a (.inr rfl) ho hc hdt (fun h' hk => hR its h' s.toks hk (each_vals hp r') (each_reads I hd r')) (by rw [List.size_toArray, le]; exact hl')) al so hu dep hl' ?_
    exact sorted_fin I hs q
/-- sorted of a dict with keys ints and texts -/
def PrK (x : V) (d : D) : Prop := ∃ k : Key, x = kV k ∧ d = keyD k
def rSortK : List V → Hp → VK → Prop := fun vs H Q => ∃ (a : Addr) (kvs : List (Key × V)), vs = [.ref a] ∧ Rd H a (.dK kvs) ∧ AllAlike (kvs.map fun kv => keyD kv.1) ∧ Sortable (kvs.map fun kv => keyD kv.1) ∧
  ∀ (out : List V) (p : Addr), Paired PrK out (sortG (kvs.map fun kv => keyD kv.1)) → H p = none → Q (.ref p) (upd H p (.lst out))
theorem keyD_depth (k : Key) : (keyD k).depth = 0 := by cases k <;> rfl
theorem cr_sortK (hc : X.calm = true) (hu : X.A.units + 64 < cLine) : CallR X (.builtin "sorted") rSortK := by
  intro pins s σ H xs us Q I r h
  obtain ⟨a, kvs, rfl, hd, al, so, q⟩ := h
  obtain ⟨u, rfl, rx⟩ := vals1 r
  cases rx
  obtain ⟨z, lo, vs, rel, dd⟩ := dk_rd I.hok hd
  obtain ⟨ep, hat⟩ := dd.dictAt
  have hks : kvs.map (·.1) = vs.map (·.1) := rel.keys
  have hl : kvs.length = vs.length := by have := congrArg List.length hks; simpa using this
  refine sorted_core (Pr := fun v d => ∃ x, L2.RelV x v ∧ PrK x d) (ds := kvs.map fun kv => keyD kv.1) (fun R hR => PySem.W.kdu_collect (A := X.A.in1) (PySem.W.kdl_dict (knd := mixKind X.prog X.w) (kvs := vs) (ep := ep) lo) (I.ok.hd hc) hat (by rw [← hl]; exact z) fun h' tk acc hk hacc => ?_) al so hu ?_ (by rw [List.length_map]; exact z) (sorted_fin I (by rw [(sortG_perm _).length_eq, List.length_map]; exact z) q)
  · have hal : acc.toList.length = kvs.length := by rw [Array.length_toList, hacc.1, hl]
    have each : ∀ (j : Nat) (v : Value) (d : D), acc.toList[j]? = some v → (kvs.map fun kv => keyD kv.1)[j]? = some d → ∃ k, keyIs k v = true ∧ d = keyD k := fun j v d e1 e2 => by
      obtain ⟨k, x, e3, e4⟩ := hacc.2 j v (by rw [← Array.getElem?_toList]; exact e1)
      have e5 : (kvs.map (·.1))[j]? = some k := by rw [hks, List.getElem?_map, e3]; rfl
      refine ⟨k, e4, ?_⟩
      rw [show (kvs.map fun kv => keyD kv.1) = (kvs.map (·.1)).map keyD by rw [List.map_map]; rfl, List.getElem?_map, e5] at e2
      exact (Option.some.inj e2).symm
    have mk : ∀ {R' : Value → D → Prop}, (∀ v k, keyIs k v = true → R' v (keyD k)) → EachIs R' acc.toList (kvs.map fun kv => keyD kv.1) := fun {R'} hR' => PySem.W.EachIs.of_zip (by rw [hal, List.length_map]) fun p hp => by
      obtain ⟨j, hj⟩ := List.mem_iff_getElem?.mp hp
      rw [List.getElem?_zip_eq_some] at hj
      obtain ⟨k, h1, h2⟩ := each j p.1 p.2 hj.1 hj.2
      rw [h2]; exact hR' _ _ h1
    refine hR acc.toList h' tk hk (mk fun v k e => ⟨kV k, keyIs_rel e, k, rfl, rfl⟩) (mk fun v k e => ?_)
    rcases keyIs_shape e with ⟨i, t, e1, e2⟩ | ⟨x, t, e1, e2⟩
    · subst e1 e2; exact ⟨_, .int _ _⟩
    · subst e1 e2; exact ⟨_, .str _ _⟩
  · intro d hd
    obtain ⟨kv, _, rfl⟩ := List.mem_map.mp hd
    rw [keyD_depth]; omega
/-- sorted of a dict with keys tuples of these -/
def PrT (H : Hp) (x : V) (d : D) : Prop := ∃ (q : Addr) (ks : List Key), x = .ref q ∧ H q = some (.tup (ks.map kV)) ∧ d = .tuple (ks.map keyD)
def rSortT : List V → Hp → VK → Prop := fun vs H Q => ∃ (a : Addr) (kvs : List (List Key × V)), vs = [.ref a] ∧ Rd H a (.dT kvs) ∧ AllAlike (kvs.map fun kv => .tuple (kv.1.map keyD)) ∧ Sortable (kvs.map fun kv => .tuple (kv.1.map keyD)) ∧
  ∀ (out : List V) (p : Addr), Paired (PrT H) out (sortG (kvs.map fun kv => .tuple (kv.1.map keyD))) → H p = none → Q (.ref p) (upd H p (.lst out))
theorem keysD_depth : ∀ ks : List Key, PyData.depthAll (ks.map keyD) = 0
  | [] => by simp [PyData.depthAll]
  | k :: r => by simp only [List.map_cons, PyData.depthAll, keyD_depth, keysD_depth r]; rfl
theorem dp_keys {K : PySem.W.Frag} : ∀ ks : List Key, DpAll K H (ks.map kV) (ks.map keyD)
  | [] => .nil
  | .inl i :: r => .cons (.int i) (dp_keys r)
  | .inr x :: r => .cons (.str x) (dp_keys r)
theorem prT_of : ∀ {kvs : List (List Key × V)} {bs : List Addr}, IsKeys H kvs bs → Paired (PrT H) (bs.map V.ref) (kvs.map fun kv => PyData.tuple (kv.1.map keyD))
  | _, _, .nil => .nil
  | _, _, .cons h t => .cons ⟨_, _, rfl, h, rfl⟩ (prT_of t)
theorem dpT_of {K : PySem.W.Frag} : ∀ {kvs : List (List Key × V)} {bs : List Addr}, IsKeys H kvs bs → DpAll K H (bs.map V.ref) (kvs.map fun kv => PyData.tuple (kv.1.map keyD))
  | _, _, .nil => .nil
  | _, _, .cons h t => .cons (.tup (SqT.of h) (dp_keys _)) (dpT_of t)
theorem cr_sortT (hc : X.calm = true) (hu : X.A.units + 64 < cLine) : CallR X (.builtin "sorted") rSortT := by
  intro pins s σ H xs us Q I r h
  obtain ⟨d, kvs, rfl, hd, al, so, q⟩ := h
  obtain ⟨u, rfl, rx⟩ := vals1 r
  cases rx
  obtain ⟨z, hs, ks, pr, o, es, ep, ho, hx, hdt, he, hn⟩ := (show ObjOk X.prog X.w H s.heap d (.dT kvs) from hd.ok I.hok)
  have l1 : es.size = ks.length := size_of_entries he
  have l2 : kvs.length = ks.length := Paired.length pr
  have zl : (kvs.map fun kv => PyData.tuple (kv.1.map keyD)).length ≤ sizeLine := by rw [List.length_map]; exact z
  refine sorted_core (Pr := fun v d => ∃ x, L2.RelV x v ∧ PrT H x d) (ds := kvs.map fun kv => .tuple (kv.1.map keyD)) (fun R hR => PySem.W.kdu_collect (A := X.A.in1) (kdl_raw hs hx hdt) (I.ok.hd hc) ho (by omega) fun h' tk acc hk it => ?_) al so hu ?_ zl (sorted_fin I (by rw [(sortG_perm _).length_eq]; exact zl) q)
  · have ea : acc.toList = (ks.map fun x => x.2.1).map Value.ref := by
      have hl : acc.toList.length = ks.length := by rw [Array.length_toList, it.1]; exact l1
      rw [List.map_map]
      apply List.ext_getElem?
      intro j
      rw [List.getElem?_map]
      cases hj : acc.toList[j]? with
      | none =>
        have h1 := List.getElem?_eq_none_iff.mp hj
        rw [List.getElem?_eq_none (by omega)]
        all_goals rfl
      | some v =>
        obtain ⟨en, hen, hv⟩ := it.2 j v (by rw [← Array.getElem?_toList]; exact hj)
        have qe := entry_at he j
        rw [hen] at qe
        cases hb : ks[j]? with
        | none =>
          rw [hb] at qe
          exact nomatch (show some en = none from qe)
        | some b =>
          rw [hb] at qe
          have e2 : en = entryOfKey (tupleKind (mixKind X.prog X.w)) b := Option.some.inj qe
          rw [hv, e2]
          all_goals rfl
    have ik := isKeys_of pr
    have pt : Paired (PrT H) ((ks.map fun x => x.2.1).map V.ref) (kvs.map fun kv => PyData.tuple (kv.1.map keyD)) := by
      exact prT_of ik
    have dp : DpAll X.K H ((ks.map fun x => x.2.1).map V.ref) (kvs.map fun kv => PyData.tuple (kv.1.map keyD)) := by
      exact dpT_of ik
    have rv : Vals ((ks.map fun x => x.2.1).map V.ref) acc.toList := by rw [ea]; exact vals_refs _
    exact hR acc.toList h' tk hk (each_vals pt rv) (each_reads I dp rv)
  · intro d hd
    obtain ⟨kv, _, rfl⟩ := List.mem_map.mp hd
    show PyData.depthAll (kv.1.map keyD) + 1 ≤ 60
    rw [keysD_depth]; omega
end
end Cw

set_option autoImplicit false
namespace Cw
open PySem PySem.Spec PyProof.Rows L2
open PySem.W (alike alikeAll dataLt keyToks keyToksAll dataLe AllAlike EachIs Sortable dataKind sortingHeap)
/-! ### lists whose items can be ordered -/
mutual
theorem alike_plain : ∀ d : D, alike d d = true → d.plain = true
  | .none, _ => by simp [PyData.plain]
  | .bool _, _ => by simp [PyData.plain]
  | .int _, _ => by simp [PyData.plain]
  | .str _, _ => by simp [PyData.plain]
  | .list xs, h => by simp only [PyData.plain]; exact alikeAll_plain xs (by simpa [alike] using h)
  | .tuple xs, h => by simp only [PyData.plain]; exact alikeAll_plain xs (by simpa [alike] using h)
  | .dict _, h => absurd h (by simp [alike])
theorem alikeAll_plain : ∀ xs : List D, alikeAll xs xs = true → PyData.plainAll xs = true
  | [], _ => by simp [PyData.plainAll]
  | x :: r, h => by
    obtain ⟨h1, h2⟩ := PySem.W.alike_all_cons h
    simp only [PyData.plainAll, Bool.and_eq_true]
    exact ⟨alike_plain x h1, alikeAll_plain r h2⟩
end
theorem plainAll_of : ∀ {ds : List D}, (∀ d ∈ ds, d.plain = true) → PyData.plainAll ds = true
  | [], _ => by simp [PyData.plainAll]
  | d :: r, h => by
    simp only [PyData.plainAll, Bool.and_eq_true]
    exact ⟨h d List.mem_cons_self, plainAll_of fun x hx => h x (List.mem_cons_of_mem _ hx)⟩
def isI : D → Bool
  | .int _ => true
  | _ => false
def isTI : D → Bool
  | .tuple (x :: r) => isI x && r.all isI
  | _ => false
def isTp : D → Bool
  | .tuple (_ :: _) => true
  | _ => false
def isNt : D → Bool
  | .tuple _ => false
  | .none => false
  | _ => true
/-- all can be ordered -/
def ordB (ds : List D) : Bool := okLen ds.length && (ds.all isI || ds.all isTI || ((ds.all isTp || ds.all isNt) && ds.all (fun d => ds.all (alike d)) && ds.all (fun d => Nat.ble d.depth 60)))
theorem isI_eq {d : D} (h : isI d = true) : ∃ i, d = .int i := by cases d <;> simp [isI] at h; exact ⟨_, rfl⟩
theorem allI_eq : ∀ {xs : List D}, xs.all isI = true → ∃ ns : List Int, xs = ns.map PyData.int
  | [], _ => ⟨[], rfl⟩
  | x :: r, h => by
    rw [List.all_cons, Bool.and_eq_true] at h
    obtain ⟨i, rfl⟩ := isI_eq h.1
    obtain ⟨ns, rfl⟩ := allI_eq h.2
    exact ⟨i :: ns, rfl⟩
theorem isTI_eq {d : D} (h : isTI d = true) : ∃ i ns, d = .tuple ((i :: ns : List Int).map PyData.int) := by
  unfold isTI at h
  split at h
  · rw [Bool.and_eq_true] at h
    obtain ⟨i, rfl⟩ := isI_eq h.1
    obtain ⟨ns, rfl⟩ := allI_eq h.2
    exact ⟨i, ns, rfl⟩
  · cases h
theorem ordB_ok {ds : List D} (h : ordB ds = true) : ds.length ≤ 1000000 ∧ AllAlike ds ∧ Sortable ds ∧ ∀ d ∈ ds, d.depth ≤ 60 := by
  unfold ordB at h
  rw [Bool.and_eq_true] at h
  refine ⟨okLen_le h.1, ?_⟩
  have h := h.2
  simp only [Bool.or_eq_true, Bool.and_eq_true, List.all_eq_true] at h
  rcases h with (h | h) | ⟨⟨h1, h2⟩, h3⟩
  · refine ⟨fun d hd d' hd' => ?_, .inr fun d hd => ?_, fun d hd => ?_⟩
    · obtain ⟨i, rfl⟩ := isI_eq (h d hd)
      obtain ⟨j, rfl⟩ := isI_eq (h d' hd')
      simp [alike]
    · obtain ⟨i, rfl⟩ := isI_eq (h d hd)
      exact ⟨by simp, by simp⟩
    · obtain ⟨i, rfl⟩ := isI_eq (h d hd)
      simp [PyData.depth]
  · refine ⟨fun d hd d' hd' => ?_, .inl fun d hd => ?_, fun d hd => ?_⟩
    · obtain ⟨i, ns, rfl⟩ := isTI_eq (h d hd)
      obtain ⟨j, ms, rfl⟩ := isTI_eq (h d' hd')
      rw [alike]
      exact PySem.W.alike_ints _ _
    · obtain ⟨i, ns, rfl⟩ := isTI_eq (h d hd)
      exact ⟨_, _, rfl⟩
    · obtain ⟨i, ns, rfl⟩ := isTI_eq (h d hd)
      rw [PyData.depth, PySem.W.depth_ints]; omega
  · refine ⟨fun d hd d' hd' => h2 d hd d' hd', ?_, fun d hd => Nat.le_of_ble_eq_true (h3 d hd)⟩
    rcases h1 with h1 | h1
    · refine .inl fun d hd => ?_
      have := h1 d hd
      unfold isTp at this
      split at this
      · exact ⟨_, _, rfl⟩
      · cases this
    · refine .inr fun d hd => ?_
      have := h1 d hd
      constructor
      · rintro rfl; simp [isNt] at this
      · rintro xs rfl; simp [isNt] at this
section
variable {W : Type} {R : Rsc W} {F H F1 H1 : Hp} {w w1 : W} {X : Cx}
/-! ### all tuples of a heap frozen -/
def frzT (F H : Hp) : Hp := fun a => match F a with
  | some o => some o
  | none => match H a with
    | some (.tup vs) => some (.tup vs)
    | _ => none
theorem frzT_sub : Sub F (frzT F H) := fun a o h => by unfold frzT; rw [h]
theorem frzT_at {a : Addr} {vs : List V} (k : Wok R F H w) (h : H a = some (.tup vs)) : frzT F H a = some (.tup vs) := by
  unfold frzT
  cases e : F a with
  | none => dsimp only; rw [h]
  | some o =>
    dsimp only
    rcases k.sub a o e with z | ⟨_, _, z⟩
    · rw [h] at z; exact z.symm
    · rw [h] at z; cases z
theorem Wok.frzT (k : Wok R F H w) : Wok R (frzT F H) H w := by
  refine ⟨fun a o h => ?_, fun {a} f => ?_, k.res, k.low.trans frzT_sub⟩
  · unfold Cw.frzT at h
    split at h
    · rename_i e; cases h; exact k.sub _ _ e
    · split at h
      · rename_i e; cases h; exact .inl e
      · cases h
  · obtain ⟨o, ho, no⟩ := R.there k.res f
    unfold Cw.frzT
    rw [k.nf f]
    dsimp only
    rw [ho]
    cases o <;> first | rfl | exact (no trivial).elim
theorem Ext.frzT : Ext R F H (frzT F H) H := ⟨frzT_sub, fun _ _ h => h, fun {a o} _ z h h' => by
  unfold Cw.frzT
  rw [h']
  dsimp only
  rw [h]
  cases o <;> first | rfl | exact (z trivial).elim⟩
theorem dnl_prT (k : Wok R F H w) : ∀ {out : List V} {ds : List D}, Paired (PrT H) out ds → DnL (frzT F H) out ds
  | _, _, .nil => .nil
  | _, _, .cons ⟨q, ks, h1, h2, h3⟩ t => by
    subst h1 h3
    exact .cons (.tup (frzT_at k h2) (dnl_keys ks)) (dnl_prT k t)
theorem dnl_prK : ∀ {out : List V} {ds : List D}, Paired PrK out ds → DnL F out ds
  | _, _, .nil => .nil
  | _, _, .cons ⟨.inl i, h1, h2⟩ t => by subst h1 h2; exact .cons (.int i) (dnl_prK t)
  | _, _, .cons ⟨.inr x, h1, h2⟩ t => by subst h1 h2; exact .cons (.str x) (dnl_prK t)
theorem DnK.keysE : ∀ {kvs : List (Key × V)} {ds : List (D × D)}, DnK F kvs ds → ds.map (·.1) = kvs.map fun kv => keyD kv.1
  | _, _, .nil => rfl
  | _, _, .cons _ t => by rw [List.map_cons, List.map_cons, DnK.keysE t]
theorem DnT.keysE : ∀ {kvs : List (List Key × V)} {ds : List (D × D)}, DnT F kvs ds → ds.map (·.1) = kvs.map fun kv => PyData.tuple (kv.1.map keyD)
  | _, _, .nil => rfl
  | _, _, .cons _ t => by rw [List.map_cons, List.map_cons, DnT.keysE t]
theorem DnL.pr : ∀ {vs : List V} {ds : List D}, DnL F vs ds → Paired (Dn F) vs ds
  | _, _, .nil => .nil
  | _, _, .cons h t => .cons h (DnL.pr t)
theorem DnL.ofPr : ∀ {vs : List V} {ds : List D}, Paired (Dn F) vs ds → DnL F vs ds
  | _, _, .nil => .nil
  | _, _, .cons h t => .cons h (DnL.ofPr t)
/-! ### sorted -/
def sortOk (xs : List D) : Res D := match ordB xs with
  | true => .ok (.list (sortG xs))
  | false => .stk
def sortedG : List D → Res D
  | [.list xs] => sortOk xs
  | [.tuple xs] => sortOk xs
  | [.dict ((.none, _) :: r)] => sortOk (r.map (·.1))
  | [.dict r] => sortOk (r.map (·.1))
  | _ => .stk
theorem nx_sortedG : NoX1 sortedG := by intro ds c; unfold sortedG sortOk; split <;> (try split) <;> simp
def rSortA (K : PySem.W.Frag) : List V → Hp → VK → Prop := fun vs H Q => rSortL K vs H Q ∨ rSortK vs H Q ∨ rSortT vs H Q
theorem sort_seq {K : PySem.W.Frag} {xs : List D} {us : List V} {q : Addr} {Q : VK} (k : Wok R F H w) (hq : SqL K H q us ∨ SqT K H q us) (hd : DnL F us xs) (p : Post R F H (fun _ => False) (liftM (sortOk xs) w) (PN H Q)) : rSortL K [.ref q] H Q := by
  unfold sortOk at p
  split at p
  · rename_i h
    obtain ⟨h1, h2, h3, h4⟩ := ordB_ok h
    exact ⟨q, us, xs, Dn F, rfl, hq, hd.dp k.sub (plainAll_of fun d hd => alike_plain d (h2 d hd d hd)), hd.pr, h2, h3, h4, h1, fun out p' hp hn => Post.lstN k (DnL.ofPr hp) p p' hn⟩
  · exact p.elim
theorem c_sortedG (hc : X.calm = true) (hu : X.A.units + 64 < cLine) : CallN X R (.builtin "sorted") (rSortA X.K) sortedG := ⟨CallR.or (cr_sortL hu) (CallR.or (cr_sortK hc hu) (cr_sortT hc hu)), by
  intro F H w vs ds Q k h p
  unfold sortedG at p
  split at p
  · obtain ⟨v, rfl, hv⟩ := h.one
    obtain ⟨q, us, rfl, hq, hd⟩ := hv.lst k
    exact .inl (sort_seq k (.inl (SqL.of hq)) hd p)
  · obtain ⟨v, rfl, hv⟩ := h.one
    obtain ⟨q, us, rfl, _, hq, hd⟩ := hv.tup k
    exact .inl (sort_seq k (.inr (SqT.of hq)) hd p)
  · rename_i z r
    obtain ⟨v, rfl, hv⟩ := h.one
    rcases hv.dicK k with ⟨a, ks, rfl, hr, hd⟩ | ⟨a, ks, r', rfl, hr, e, hd⟩
    · exact (hd.nohead).elim
    · cases e
      unfold sortOk at p
      split at p
      · rename_i ho
        obtain ⟨h1, h2, h3, h4⟩ := ordB_ok ho
        rw [hd.keysE] at h2 h3 p
        refine .inr (.inr ⟨a, ks, rfl, hr, h2, h3, fun out p' hp hn => ?_⟩)
        have k' := k.frzT
        have p' := Post.at Ext.frzT p
        exact Post.lstN k' (dnl_prT k hp) p' _ hn
      · exact p.elim
  · rename_i r hne
    obtain ⟨v, rfl, hv⟩ := h.one
    rcases hv.dicK k with ⟨a, ks, rfl, hr, hd⟩ | ⟨a, ks, r', rfl, hr, e, hd⟩
    · unfold sortOk at p
      split at p
      · rename_i ho
        obtain ⟨h1, h2, h3, h4⟩ := ordB_ok ho
        rw [hd.keysE] at h2 h3 p
        exact .inr (.inl ⟨a, ks, rfl, hr, h2, h3, fun out p' hp hn => Post.lstN k (dnl_prK hp) p p' hn⟩)
      · exact p.elim
    · exact (hne _ _ (by rw [e])).elim
  · exact p.elim⟩
end
end Cw

set_option autoImplicit false
namespace Cw
open PySem PySem.Spec PyProof.Rows L2
open PySem.W (alike alikeAll dataLt keyToks keyToksAll dataLe AllAlike EachIs Sortable dataKind sortingHeap AlikeAll minD maxD)
theorem depthAll_le {n : Nat} : ∀ {ds : List D}, (∀ d ∈ ds, d.depth ≤ n) → PyData.depthAll ds ≤ n + 1
  | [], _ => by simp [PyData.depthAll]
  | d :: r, h => by
    have h1 := h d List.mem_cons_self
    have h2 := depthAll_le fun x hx => h x (List.mem_cons_of_mem _ hx)
    simp only [PyData.depthAll]
    omega
theorem alikeAll_of {ds : List D} (h : AllAlike ds) (s : Sortable ds) : AlikeAll ds := ⟨h, fun x hx => by
  rcases s with s | s
  · obtain ⟨a, r, rfl⟩ := s x hx; simp
  · exact (s x hx).1⟩
def minX (d : D) (ds : List D) : D := ds.foldl (fun a y => match ltX y a with | true => y | false => a) d
def maxX (d : D) (ds : List D) : D := ds.foldl (fun a y => match ltX a y with | true => y | false => a) d
theorem minX_eq : ∀ (ds : List D) (d : D), AllAlike (d :: ds) → minD d ds = minX d ds ∧ minX d ds ∈ d :: ds
  | [], d, _ => ⟨rfl, List.mem_cons_self⟩
  | y :: r, d, h => by
    have e := lt_ltX y d (h y (List.mem_cons_of_mem _ List.mem_cons_self) d List.mem_cons_self)
    have sub1 : AllAlike (y :: r) := fun a ha b hb => h a (List.mem_cons_of_mem _ ha) b (List.mem_cons_of_mem _ hb)
    have sub2 : AllAlike (d :: r) := fun a ha b hb => h a (by rcases List.mem_cons.mp ha with rfl | ha; exact List.mem_cons_self; exact List.mem_cons_of_mem _ (List.mem_cons_of_mem _ ha)) b (by rcases List.mem_cons.mp hb with rfl | hb; exact List.mem_cons_self; exact List.mem_cons_of_mem _ (List.mem_cons_of_mem _ hb))
    unfold minD minX
    rw [List.foldl_cons, List.foldl_cons]
    cases z : ltX y d with
    | true =>
      rw [if_pos (by rw [e, z])]
      obtain ⟨i1, i2⟩ := minX_eq r y sub1
      exact ⟨i1, List.mem_cons_of_mem _ i2⟩
    | false =>
      rw [if_neg (by rw [e, z]; simp)]
      obtain ⟨i1, i2⟩ := minX_eq r d sub2
      refine ⟨i1, ?_⟩
      rcases List.mem_cons.mp i2 with q | q
      · exact List.mem_cons.mpr (.inl q)
      · exact List.mem_cons_of_mem _ (List.mem_cons_of_mem _ q)
theorem maxX_eq : ∀ (ds : List D) (d : D), AllAlike (d :: ds) → maxD d ds = maxX d ds ∧ maxX d ds ∈ d :: ds
  | [], d, _ => ⟨rfl, List.mem_cons_self⟩
  | y :: r, d, h => by
    have e := lt_ltX d y (h d List.mem_cons_self y (List.mem_cons_of_mem _ List.mem_cons_self))
    have sub1 : AllAlike (y :: r) := fun a ha b hb => h a (List.mem_cons_of_mem _ ha) b (List.mem_cons_of_mem _ hb)
    have sub2 : AllAlike (d :: r) := fun a ha b hb => h a (by rcases List.mem_cons.mp ha with rfl | ha; exact List.mem_cons_self; exact List.mem_cons_of_mem _ (List.mem_cons_of_mem _ ha)) b (by rcases List.mem_cons.mp hb with rfl | hb; exact List.mem_cons_self; exact List.mem_cons_of_mem _ (List.mem_cons_of_mem _ hb))
    unfold maxD maxX
    rw [List.foldl_cons, List.foldl_cons]
    cases z : ltX d y with
    | true =>
      rw [if_pos (by rw [e, z])]
      obtain ⟨i1, i2⟩ := maxX_eq r y sub1
      exact ⟨i1, List.mem_cons_of_mem _ i2⟩
    | false =>
      rw [if_neg (by rw [e, z]; simp)]
      obtain ⟨i1, i2⟩ := maxX_eq r d sub2
      refine ⟨i1, ?_⟩
      rcases List.mem_cons.mp i2 with q | q
      · exact List.mem_cons.mpr (.inl q)
      · exact List.mem_cons_of_mem _ (List.mem_cons_of_mem _ q)
section
variable {X : Cx} {pins : List (Addr × Obj)} {σ : L2.St} {H : Hp} {s : Shared}
def rMinG (K : PySem.W.Frag) (best : D → List D → D) : List V → Hp → VK → Prop := fun vs H Q => ∃ (a : Addr) (xs : List V) (d : D) (ds : List D) (Pr : V → D → Prop), vs = [.ref a] ∧ (SqL K H a xs ∨ SqT K H a xs) ∧ DpAll K H xs (d :: ds) ∧ Paired Pr xs (d :: ds) ∧ AllAlike (d :: ds) ∧ Sortable (d :: ds) ∧ (∀ e ∈ d :: ds, e.depth ≤ 60) ∧
  ∀ x, Pr x (best d ds) → Q x H
theorem each_reads' (I : Inv X pins σ H s) : ∀ {xs : List V} {ds : List D} {its : List Value}, DpAll X.K H xs ds → Vals xs its → ∃ as, ReadsAll s.heap its ds as
  | _, _, _, .nil, .nil => ⟨[], .nil⟩
  | _, _, _, .cons h t, .cons r rs => by
    obtain ⟨as, h1⟩ := Dp.reads I _ _ _ h r
    obtain ⟨bs, h2⟩ := each_reads' I t rs
    exact ⟨as ++ bs, .cons h1 h2⟩
theorem pick_pr (I : Inv X pins σ H s) {Pr : V → D → Prop} : ∀ {xs : List V} {ds : List D} {its : List Value}, DpAll X.K H xs ds → Paired Pr xs ds → Vals xs its → ∀ (i : Nat) (v : Value), its[i]? = some v → ∃ x d as, L2.RelV x v ∧ Pr x d ∧ d ∈ ds ∧ Reads s.heap v d as
  | _, _, _, .nil, .nil, .nil, i, v, h => by simp at h
  | _, _, _, .cons h t, .cons p ps, .cons r rs, 0, v, e => by
    obtain ⟨as, h1⟩ := Dp.reads I _ _ _ h r
    have e' := Option.some.inj e
    subst e'
    exact ⟨_, _, as, r, p, List.mem_cons_self, h1⟩
  | _, _, _, .cons h t, .cons p ps, .cons r rs, i + 1, v, e => by
    obtain ⟨x, d, as, h1, h2, h3, h4⟩ := pick_pr I t ps rs i v (by simpa using e)
    exact ⟨x, d, as, h1, h2, List.mem_cons_of_mem _ h3, h4⟩
theorem best_fin (I : Inv X pins σ H s) {Pr : V → D → Prop} {Q : VK} {xs : List V} {d m : D} {ds : List D} {its : List Value} (hd : DpAll X.K H xs (d :: ds)) (hp : Paired Pr xs (d :: ds)) (rv : Vals xs its) (al : AllAlike (d :: ds)) (hm : m ∈ d :: ds) (q : ∀ x, Pr x m → Q x H)
    (i : Nat) (v : Value) (h' : Heap) (tk : Nat) (bs : List Addr) (e : its.toArray[i]? = some v) (r : Reads h' v m bs) (k : ∀ b o, s.heap.get? b = some o → h'.get? b = some o) : EP X pins σ Q v { s with heap := h', toks := tk } := by
  obtain ⟨x, d', as, h1, h2, h3, h4⟩ := pick_pr I hd hp rv i v (by simpa using e)
  have em : d' = m := PySem.W.alike_unique d' m v as bs (al d' h3 m hm) (PyProof.Rows.Reads.keeps k h4) r
  subst em
  exact ⟨x, H, I.kept k, h1, q x h2⟩
theorem cr_minG (hc : X.calm = true) (hu : X.A.units + 64 < cLine) : CallR X (.builtin "min") (rMinG X.K minX) := by
  intro pins s σ H xs us Q I r h
  obtain ⟨a, xs, d, ds, Pr, rfl, hq, hd, hp, al, so, dep, q⟩ := h
  obtain ⟨u, rfl, rx⟩ := vals1 r
  cases rx
  obtain ⟨e1, e2⟩ := minX_eq ds d al
  have dl := depthAll_le dep
  have hh := I.ok.hd hc
  rcases hq with hq | hq
  · obtain ⟨its, r', pl, hz⟩ := I.list hq
    obtain ⟨as, ra⟩ := each_reads' I hd r'
    refine PySem.W.min_list_data (vs := its.toArray) hh pl.isList (by simpa using ra) (alikeAll_of al so) (by omega) fun i v h' tk bs e r k => ?_
    exact best_fin I hd hp r' al e2 q i v h' tk bs e (by rw [← e1]; exact r) k
  · obtain ⟨its, r', pl, hz⟩ := I.tuple hq
    obtain ⟨as, ra⟩ := each_reads' I hd r'
    refine PySem.W.min_tuple_data (vs := its.toArray) hh pl (by simpa using ra) (alikeAll_of al so) (by omega) fun i v h' tk bs e r k => ?_
    exact best_fin I hd hp r' al e2 q i v h' tk bs e (by rw [← e1]; exact r) k
theorem cr_maxG (hc : X.calm = true) (hu : X.A.units + 64 < cLine) : CallR X (.builtin "max") (rMinG X.K maxX) := by
  intro pins s σ H xs us Q I r h
  obtain ⟨a, xs, d, ds, Pr, rfl, hq, hd, hp, al, so, dep, q⟩ := h
  obtain ⟨u, rfl, rx⟩ := vals1 r
  cases rx
  obtain ⟨e1, e2⟩ := maxX_eq ds d al
  have dl := depthAll_le dep
  have hh := I.ok.hd hc
  rcases hq with hq | hq
  · obtain ⟨its, r', pl, hz⟩ := I.list hq
    obtain ⟨as, ra⟩ := each_reads' I hd r'
    refine PySem.W.max_list_data (vs := its.toArray) hh pl.isList (by simpa using ra) (alikeAll_of al so) (by omega) fun i v h' tk bs e r k => ?_
    exact best_fin I hd hp r' al e2 q i v h' tk bs e (by rw [← e1]; exact r) k
  · obtain ⟨its, r', pl, hz⟩ := I.tuple hq
    obtain ⟨as, ra⟩ := each_reads' I hd r'
    refine PySem.W.max_tuple_data (vs := its.toArray) hh pl (by simpa using ra) (alikeAll_of al so) (by omega) fun i v h' tk bs e r k => ?_
    exact best_fin I hd hp r' al e2 q i v h' tk bs e (by rw [← e1]; exact r) k
end
section
variable {W : Type} {R : Rsc W} {F H F1 H1 : Hp} {w w1 : W} {X : Cx}
/-- min, max of two ints, of a list or a tuple of things that can be ordered -/
def bestOf (best : D → List D → D) : List D → Res D
  | [] => .stk
  | d :: ds => match ordB (d :: ds) with
    | true => .ok (best d ds)
    | false => .stk
def minG : List D → Res D
  | [.int i, .int j] => .ok (.int (if j < i then j else i))
  | [.list xs] => bestOf minX xs
  | [.tuple xs] => bestOf minX xs
  | _ => .stk
def maxG : List D → Res D
  | [.int i, .int j] => .ok (.int (if j > i then j else i))
  | [.list xs] => bestOf maxX xs
  | [.tuple xs] => bestOf maxX xs
  | _ => .stk
theorem nx_minG : NoX1 minG := by intro ds c; unfold minG bestOf; split <;> (try split) <;> (try split) <;> simp
theorem nx_maxG : NoX1 maxG := by intro ds c; unfold maxG bestOf; split <;> (try split) <;> (try split) <;> simp
theorem paired_mem {Pr : V → D → Prop} : ∀ {xs : List V} {ds : List D}, Paired Pr xs ds → True := fun _ => trivial
theorem best_seq {K : PySem.W.Frag} {best : D → List D → D} {xs : List D} {us : List V} {q : Addr} {Q : VK} (k : Wok R F H w) (hq : SqL K H q us ∨ SqT K H q us) (hd : DnL F us xs) (p : Post R F H (fun _ => False) (liftM (bestOf best xs) w) (PV Q)) : rMinG K best [.ref q] H Q := by
  unfold bestOf at p
  split at p
  · exact p.elim
  · split at p
    · rename_i h
      obtain ⟨h1, h2, h3, h4⟩ := ordB_ok h
      exact ⟨q, us, _, _, Dn F, rfl, hq, hd.dp k.sub (plainAll_of fun d hd => alike_plain d (h2 d hd d hd)), hd.pr, h2, h3, h4, fun x hx => p.here k x hx⟩
    · exact p.elim
theorem c_minG (hc : X.calm = true) (hu : X.A.units + 64 < cLine) : CallD X R (.builtin "min") (fun xs H Q => rMin2 xs H Q ∨ rMinG X.K minX xs H Q) minG := ⟨CallR.or (call_min2 hc) (cr_minG hc hu), by
  intro F H w vs ds Q k h p
  unfold minG at p
  split at p
  · obtain ⟨v, u, rfl, hv, hu⟩ := h.two
    exact .inl ⟨_, _, by rw [hv.int, hu.int], p.here k _ (.int _)⟩
  · obtain ⟨v, rfl, hv⟩ := h.one
    obtain ⟨q, us, rfl, hq, hd⟩ := hv.lst k
    exact .inr (best_seq k (.inl (SqL.of hq)) hd p)
  · obtain ⟨v, rfl, hv⟩ := h.one
    obtain ⟨q, us, rfl, _, hq, hd⟩ := hv.tup k
    exact .inr (best_seq k (.inr (SqT.of hq)) hd p)
  · exact p.elim⟩
theorem c_maxG (hc : X.calm = true) (hu : X.A.units + 64 < cLine) : CallD X R (.builtin "max") (fun xs H Q => rMax2 xs H Q ∨ rMinG X.K maxX xs H Q) maxG := ⟨CallR.or (call_max2 hc) (cr_maxG hc hu), by
  intro F H w vs ds Q k h p
  unfold maxG at p
  split at p
  · obtain ⟨v, u, rfl, hv, hu⟩ := h.two
    exact .inl ⟨_, _, by rw [hv.int, hu.int], p.here k _ (.int _)⟩
  · obtain ⟨v, rfl, hv⟩ := h.one
    obtain ⟨q, us, rfl, hq, hd⟩ := hv.lst k
    exact .inr (best_seq k (.inl (SqL.of hq)) hd p)
  · obtain ⟨v, rfl, hv⟩ := h.one
    obtain ⟨q, us, rfl, _, hq, hd⟩ := hv.tup k
    exact .inr (best_seq k (.inr (SqT.of hq)) hd p)
  · exact p.elim⟩
variable {K : PySem.W.Frag}
theorem k_sortedG (hK : X.K = K) (hc : X.calm = true) (hu : X.A.units + 64 < cLine) : CallN X R (.builtin "sorted") (rSortA K) sortedG := by subst hK; exact c_sortedG hc hu
theorem k_minG (hK : X.K = K) (hc : X.calm = true) (hu : X.A.units + 64 < cLine) : CallD X R (.builtin "min") (fun xs H Q => rMin2 xs H Q ∨ rMinG K minX xs H Q) minG := by subst hK; exact c_minG hc hu
theorem k_maxG (hK : X.K = K) (hc : X.calm = true) (hu : X.A.units + 64 < cLine) : CallD X R (.builtin "max") (fun xs H Q => rMax2 xs H Q ∨ rMinG K maxX xs H Q) maxG := by subst hK; exact c_maxG hc hu
end
end Cw

set_option autoImplicit false
namespace Cw
open PySem PySem.Spec PyProof.Rows L2
/-! ### {k: v} -/
def tDisp1T (tk tv : TE) : TE := fun σ H Q => ∀ p, H p = none → tk σ (upd H p (.dT [])) fun x H1 => tv σ H1 fun y H2 => H2 p = some (.dT []) ∧ ∃ (b : Addr) (ks : List Key), x = .ref b ∧ H2 b = some (.tup (ks.map kV)) ∧ Q (.ref p) (upd H2 p (.dT [(ks, y)]))
theorem pe_disp1T {X : Cx} {k v : Expr} {tk tv : TE} {pos : Pos} (hu : X.A.units + 1 < cLine) (hk : PE X k tk) (hv : PE X v tv) : PE X (.Dict [some k] [v] pos) (tDisp1T tk tv) := by
  refine ⟨fun pins s σ H Q I q => ?_⟩
  have hn := I.hok.fresh (Nat.le_refl s.heap.objs.size)
  have I1 := I.laid (a := s.heap.objs.size) (o := .dT []) (h' := s.heap.push { cls := .type "dict", data := .dict #[] }) (t' := s.toks) (fun _ _ q => Heap.get?_push_of_some _ q) (Nat.le_refl _) (dt_empty s.heap I.big)
  have hl := pairTrees_length [some k] [v] X.env pos rfl rfl
  have h0 : pairTrees [some k] [v] X.env pos ≠ [] := fun e => by rw [e] at hl; cases hl
  rw [arm_eval_Dict, zip_pairTrees [some k] [v] X.env pos rfl rfl, dictDisplay_pairs _ h0 (by rw [hl]; exact (by decide : 1 < 17))]
  refine wpAny_bind (wpAny_standAt (wpAny_bind (wpAny_subDictH (knd := tupleKind (mixKind X.prog X.w)) (Q := fun d s' => wpAny (model X.prog X.w) X.A (pure (Value.ref d)) (EP X pins σ Q) X.xe s') (show X.A.units < cLine by omega) (by rw [hl]; exact (by decide : 1 ≤ 15)) ?_)))
  refine thn ((pps_cons (pos := pos) hk hv pps_nil).run pins _ σ _ (fun ps H2 => match ps with
    | [(x, y)] => H2 s.heap.objs.size = some (.dT []) ∧ ∃ (b : Addr) (ks : List Key), x = .ref b ∧ H2 b = some (.tup (ks.map kV)) ∧ Q (.ref s.heap.objs.size) (upd H2 s.heap.objs.size (.dT [(ks, y)]))
    | _ => False) I1 (q _ hn)) fun ws s2 h2 => ?_
  · obtain ⟨ps, H2, I2, rel, h2⟩ := h2
    split at h2
    rotate_left
    · exact h2.elim
    rename_i x y
    obtain ⟨e, b, ks, rfl, hb, q2⟩ := h2
    cases rel with
    | cons r t =>
      cases t
      obtain ⟨r1, r2⟩ := r
      rename_i pr
      obtain ⟨kv, vv⟩ := pr
      cases (show kv = Value.ref b from r1)
      obtain ⟨z, hd, xs, rel, dd⟩ := L2.dt_of I2.hok e
      cases rel
      refine ⟨[(ks, b, vv)], ⟨rfl, rfl, key_of I2.hok hb, trivial⟩, dd, fun h' tk dd' hs => wpAny_pure ⟨.ref s.heap.objs.size, _, ?_, rfl, q2⟩⟩
      obtain ⟨q, es, ep, hq, h2, h3, h4, _, h5⟩ := dd'
      have hz : ([(ks, y)] : List (List Key × V)).length ≤ sizeLine := by rw [sizeLine_eq, List.length_cons, List.length_nil]; decide
      refine d_write I2 (by rw [e]; exact True.intro) hs ⟨q, hq⟩ ⟨hz, hd, [(ks, b, vv)], .cons ⟨rfl, ?_, r2⟩ .nil, q, es, ep, hq, h2, h3, h4, h5⟩
      rw [upd_ne (ne_of hb e (fun z => nomatch z))]
      exact hb
section
variable {W : Type} {R : Rsc W} {F H F1 H1 F2 H2 : Hp} {w w1 w2 : W} {X : Cx} {B : Bs} {η : EnvD} {σ : L2.St}
/-- an object made within, written once more -/
theorem Ext.rewrite {p : Addr} {o o' : HO} (hp : H p = Option.none) (e : Ext R F (upd H p o) F2 H2) : Ext R F H F2 (upd H2 p o') :=
  ⟨e.mono, fun {a u} n q h => by rw [upd_ne (ne_of_none h hp)]; exact e.keep n q (by rw [upd_ne (ne_of_none h hp)]; exact h), fun {a u} n z h h' => e.fresh n z (by rw [upd_ne (ne_of_none h hp)]; exact h) h'⟩
theorem Wok.rewrite {p : Addr} {o o' : HO} (k : Wok R F2 H2 w2) (h : H2 p = some o) (hF : F2 p = Option.none) (nf : ¬ R.foot p) (ne : ∀ g, o ≠ .ext g) : Wok R F2 (upd H2 p o') w2 :=
  ⟨fun a u z => by rw [upd_ne (ne_of_none z hF)]; exact k.sub a u z, k.nf, R.stable k.res (fun b fb => upd_ne fun z => nf (z ▸ fb)) fun b g z => by rw [upd_ne (fun y => by rw [y, h] at z; exact ne g (Option.some.inj z))]; exact z, k.low⟩
def eDisp1 (fk fv : FE W) : FE W := fun η w => bindM (fk η w) fun k w1 => bindM (fv η w1) fun v w2 => match tkey k with
  | some _ => .ok (.dict [(.none, .none), (k, v)], w2)
  | none => match skey k with
    | some _ => .ok (.dict [(k, v)], w2)
    | none => .stk
def tDispA (tk tv : TE) : TE := fun σ H Q => tDisp [(tk, tv)] σ H Q ∨ tDisp1T tk tv σ H Q
theorem dn_disp1 {k v : Expr} {tk tv : TE} {fk fv : FE W} {pos : Pos} (hu : X.A.units + 1 < cLine) (hk : DE X R k tk fk) (hv : DE X R v tv fv) : DN X R (.Dict [some k] [v] pos) (tDispA tk tv) (eDisp1 fk fv) := ⟨
  ⟨fun pins s σ H Q I q => q.elim ((pe_disp (pps_cons hk.pe hv.pe pps_nil) rfl rfl (by simp) (by simp)).run pins s σ H Q I) ((pe_disp1T hu hk.pe hv.pe).run pins s σ H Q I)⟩, fun B η w σ F H S Q p => by
  unfold eDisp1 at p
  cases ek : fk η w with
  | exc c =>
    rw [ek] at p
    exact .inl fun q hq => hk.rf B η w σ F _ (S.go (Ext.newO hq) (S.wok.newO hq)) _ (by rw [ek]; exact p)
  | stk => rw [ek] at p; exact p.elim
  | ok kw =>
    obtain ⟨kd, w1⟩ := kw
    rw [ek] at p
    simp only [bindM] at p
    cases ev : fv η w1 with
    | exc c =>
      rw [ev] at p
      refine .inl fun q hq => ?_
      have S0 := S.go (Ext.newO (o := .dK []) hq) (S.wok.newO hq)
      refine hk.rf B η w σ F _ S0 _ ?_
      rw [ek]
      exact fun F1 H1 e1 k1 x hx => hv.rf B η w1 σ F1 H1 (S0.go e1 k1) _ (by rw [ev]; exact p)
    | stk => rw [ev] at p; exact p.elim
    | ok vw =>
      obtain ⟨vd, w2⟩ := vw
      rw [ev] at p
      simp only [bindM] at p
      split at p
      · rename_i ks ht
        obtain rfl := tkey_some ht
        refine .inr fun q hq => ?_
        have S0 := S.go (Ext.newO (o := .dT []) hq) (S.wok.newO hq)
        have hF := S.wok.Fnone hq
        have nf := S.wok.notfoot hq
        refine hk.rf B η w σ F _ S0 _ ?_
        rw [ek]
        intro F1 H1 e1 k1 x hx
        refine hv.rf B η w1 σ F1 H1 (S0.go e1 k1) _ ?_
        rw [ev]
        intro F2 H2 e2 k2 y hy
        have e := e1.trans e2
        have hq2 : H2 q = some (.dT []) := e.keep nf (.inl hF) upd_same
        have hF2 : F2 q = none := e.fresh nf (show ¬ IsFrz (.dT []) from fun z => z) (upd_same (H := H)) hF
        obtain ⟨b, us, rfl, _, hb, hds⟩ := (Sq.fr (R := R) (H := H2) (hx.mono e2.mono)).tup k2
        refine ⟨hq2, b, ks, rfl, by rw [← hds.keys]; exact hb, ?_⟩
        exact p F2 _ (Ext.rewrite hq e) (k2.rewrite hq2 hF2 nf fun g z => nomatch z) q _ hq upd_same (.dT (.cons hy .nil)) hF2
      · split at p
        · rename_i k' hs
          obtain rfl := skey_some hs
          refine .inl fun q hq => ?_
          have S0 := S.go (Ext.newO (o := .dK []) hq) (S.wok.newO hq)
          have hF := S.wok.Fnone hq
          have nf := S.wok.notfoot hq
          refine hk.rf B η w σ F _ S0 _ ?_
          rw [ek]
          intro F1 H1 e1 k1 x hx
          refine hv.rf B η w1 σ F1 H1 (S0.go e1 k1) _ ?_
          rw [ev]
          intro F2 H2 e2 k2 y hy
          have e := e1.trans e2
          have hq2 : H2 q = some (.dK []) := e.keep nf (.inl hF) upd_same
          have hF2 : F2 q = none := e.fresh nf (show ¬ IsFrz (.dK []) from fun z => z) (upd_same (H := H)) hF
          refine ⟨hq2, [(k', y)], ?_, by simp, ?_⟩
          · rw [(Sq.fr (R := R) (H := H2) hx).key]; rfl
          · exact p F2 _ (Ext.rewrite hq e) (k2.rewrite hq2 hF2 nf fun g z => nomatch z) q _ hq upd_same (.dK (.cons hy .nil)) hF2
        · exact p.elim⟩
end
end Cw

set_option autoImplicit false
namespace Cw
open PySem PySem.Spec PyProof.Rows L2
/-! ### expressions that change the object of a slot -/
abbrev FX (W : Type) := EnvD → W → Res ((D × EnvD) × W)
section
variable {W : Type} {R : Rsc W} {F H F1 H1 F2 H2 : Hp} {w w1 w2 : W} {X : Cx} {B : Bs} {η : EnvD} {σ : L2.St}
def PostX {α : Type} (R : Rsc W) (B : Bs) (σ : L2.St) (r : Res ((α × EnvD) × W)) (P : α → Hp → Hp → Prop) : Prop := match r with
  | .ok ((a, η'), w') => ∀ F' H', StOk R B η' w' σ F' H' → P a F' H'
  | .exc c => B.X c
  | .stk => False
def RefX (R : Rsc W) (t : TE) (f : FX W) : Prop := ∀ (B : Bs) (η : EnvD) (w : W) (σ : L2.St) (F H : Hp), StOk R B η w σ F H → ∀ Q : VK, PostX R B σ (f η w) (PV Q) → t σ H Q
structure DX (X : Cx) (R : Rsc W) (e : Expr) (t : TE) (f : FX W) : Prop where
  pe : PE X e t
  rf : RefX R t f
theorem PostX.bind {α : Type} {r : Res ((α × EnvD) × W)} {k : α × EnvD → W → Res (Out × W)} {Dd : Ends} {P : α → Hp → Hp → Prop} (p : PostS R B (bindM r k) Dd)
    (h : ∀ a η1 w1 F1 H1, StOk R B η1 w1 σ F1 H1 → PostS R B (k (a, η1) w1) Dd → P a F1 H1) : PostX R B σ r P := by
  match r, p with
  | .ok ((a, η1), w1), p => exact fun F1 H1 o => h a η1 w1 F1 H1 o p
  | .exc c, p => exact p
  | .stk, p => exact p
theorem PostX.bindX {α β : Type} {r : Res ((α × EnvD) × W)} {k : α × EnvD → W → Res ((β × EnvD) × W)} {P : α → Hp → Hp → Prop} {P' : β → Hp → Hp → Prop} (p : PostX R B σ (bindM r k) P')
    (h : ∀ a η1 w1 F1 H1, StOk R B η1 w1 σ F1 H1 → PostX R B σ (k (a, η1) w1) P' → P a F1 H1) : PostX R B σ r P := by
  match r, p with
  | .ok ((a, η1), w1), p => exact fun F1 H1 o => h a η1 w1 F1 H1 o p
  | .exc c, p => exact p
  | .stk, p => exact p
/-- behind an expression without effect -/
theorem PostX.bindE {α β : Type} {r : Res (α × W)} {k : α → W → Res ((β × EnvD) × W)} {P : α → Hp → Hp → Prop} {P' : β → Hp → Hp → Prop} (S : StOk R B η w σ F H) (p : PostX R B σ (bindM r k) P')
    (h : ∀ a w1 F1 H1, StOk R B η w1 σ F1 H1 → Ext R F H F1 H1 → PostX R B σ (k a w1) P' → P a F1 H1) : Post R F H B.X r P := by
  match r, p with
  | .ok (a, w1), p => exact fun F1 H1 e o => h a w1 F1 H1 (S.go e o) e p
  | .exc c, p => exact p
  | .stk, p => exact p
variable {e : Expr} {te : TE} {fe : FE W} {fx : FX W} {pos p apos cpos : Pos}
/-- x.pop() -/
def lastD (xs : List D) : Option D := match xs with
  | [] => none
  | [d] => some d
  | _ :: r => lastD r
theorem lastD_some : ∀ {xs : List D} {d : D}, lastD xs = some d → xs[xs.length - 1]? = some d
  | [], _, h => by cases h
  | [x], _, h => by simpa [lastD] using h
  | x :: y :: r, d, h => by
    have := lastD_some (xs := y :: r) (by simpa [lastD] using h)
    simpa using this
def xPop (i : Nat) : FX W := fun η w => match ownL η i with
  | some xs => match lastD xs with
    | some d => .ok ((d, η.set i (.ow (.list xs.dropLast))), w)
    | none => .stk
  | none => .stk
theorem ref_pop {K : PySem.W.Frag} {i : Nat} : RefX R (tBM0 K "list" rPop (tVar i)) (xPop i : FX W) := fun B η w σ F H S Q p => by
  unfold xPop at p
  split at p
  · rename_i xs z
    split at p
    · rename_i d hd
      obtain ⟨q, vs, h1, h2, h3, h4, h5⟩ := S.owL z
      obtain ⟨v, g1, g2⟩ := h3.get _ (lastD_some hd)
      refine ⟨_, h1, .inl ⟨rfl, vs, SqL.of h2⟩, q, vs, v, rfl, rfl, h2, by rw [h3.len]; exact g1, ?_⟩
      exact p F _ (S.write (ownL_some z) h1 (.lst h3.dropLast)) v g2
    · exact p.elim
  · exact p.elim
theorem dx_pop (i : Nat) {x : Str} {xpos : Pos} (hN : X.N[i]? = some x) (hv : Vis X.env.scope x)
    (hb : attributeBase (.Name x xpos) "pop" X.env (eval (.Name x xpos) X.env) = eval (.Name x xpos) X.env) (hl : (apos.endLine == cpos.line) = true) (hd : (x == ("__debug__" : Str)) = false) (hcd : (x == ("__classdict__" : Str)) = false) :
    DX X R (.Call (.Attribute (.Name x xpos) "pop" apos) [] [] cpos) (tBM0 X.K "list" rPop (tVar i)) (xPop i) :=
  ⟨pe_bm0 PySem.F.plainAttrs_list PySem.F.slot_list_pop PySem.F.type_list_pop mt_pop (pe_var hN hv hd hcd) hb hl, ref_pop⟩
/-- x.pop(k) -/
def xPopAt (i : Nat) (f : FE W) : FX W := fun η w => match ownL η i with
  | some _ => bindM (f η w) fun k w1 => match k, ownL η i with
    | .int k, some xs => match decide (0 ≤ k) && decide (k < 1000000) with
      | true => match xs[k.toNat]? with
        | some d => .ok ((d, η.set i (.ow (.list (xs.eraseIdx k.toNat)))), w1)
        | none => .stk
      | false => .stk
    | _, _ => .stk
  | none => .stk
theorem ref_popAt {K : PySem.W.Frag} {i : Nat} (he : RefQ R te fe) : RefX R (tBM K "list" rPopAt (tVar i) (tCons te tNil)) (xPopAt i fe) := fun B η w σ F H S Q p => by
  unfold xPopAt at p
  split at p
  · rename_i xs z
    obtain ⟨q, vs, h1, h2, h3, h4, h5⟩ := S.owL z
    refine ⟨_, h1, .inl ⟨rfl, vs, SqL.of h2⟩, he B η w σ F H S _ (p.bindE S fun k w1 F1 H1 S1 e1 p v hv => ?_)⟩
    split at p
    · rename_i kk xs' z'
      cases z.symm.trans z'
      split at p
      · rename_i hk
        simp only [Bool.and_eq_true, decide_eq_true_eq] at hk
        split at p
        · rename_i d hd
          obtain ⟨u, g1, g2⟩ := h3.get _ hd
          have h2' : H1 q = some (.lst vs) := e1.keep h5 (.inl h4) h2
          have lt := (List.getElem?_eq_some_iff.mp g1).1
          refine ⟨q, vs, kk, kk.toNat, u, rfl, by rw [hv.int], h2', by omega, by omega, ?_, g1, ?_⟩
          · unfold seqIndex?
            have n0 : ¬ kk < 0 := by omega
            have c : (decide (0 ≤ kk) && decide (kk < (vs.length : Int))) = true := by
              rw [decide_eq_true hk.1, decide_eq_true (by omega)]; rfl
            simp only [if_neg n0, c, if_true]
          · exact p F1 _ (S1.write (ownL_some z) h1 (.lst ((h3.mono e1.mono).eraseIdx _))) u (g2.mono e1.mono)
        · exact p.elim
      · exact p.elim
    · exact p.elim
  · exact p.elim
theorem dx_popAt (i : Nat) {x : Str} {xpos : Pos} (hN : X.N[i]? = some x) (hv : Vis X.env.scope x) (he : DQ X R e te fe)
    (hb : attributeBase (.Name x xpos) "pop" X.env (eval (.Name x xpos) X.env) = eval (.Name x xpos) X.env) (hf : ((backTo cpos (starEach (e :: []) X.env)).all (fun x => !x.1) && (backToKw cpos (keywordEach [] X.env)).all (fun x => x.1.isSome)
      && decide ((e :: []).length + ([] : List Keyword).length + (if ([] : List Keyword).isEmpty then 0 else 1) < 30)) = true) (hl : (apos.endLine == cpos.line) = true) (hs : starEach (e :: []) X.env = (false, eval e X.env) :: starEach [] X.env)
    (hp : (backTo cpos (starEach [] X.env)).any (·.1) = false) (hd : (x == ("__debug__" : Str)) = false) (hcd : (x == ("__classdict__" : Str)) = false) :
    DX X R (.Call (.Attribute (.Name x xpos) "pop" apos) [e] [] cpos) (tBM X.K "list" rPopAt (tVar i) (tCons te tNil)) (xPopAt i fe) :=
  ⟨pe_bm PySem.F.plainAttrs_list PySem.F.slot_list_pop PySem.F.type_list_pop mt_popAt (pe_var hN hv hd hcd) (pa_cons he.pe pa_nil hs) hb hf hl hs hp, ref_popAt he.rf⟩
/-! ### statements with such an expression -/
variable {tx : TE}
def sDropX (f : FX W) : FS W := fun η w => bindM (f η w) fun r w1 => .ok (.nx r.2, w1)
theorem ds_exprX (he : DX X R e tx fx) (hs : swapsWith e none pos.line X.env = pure false) : DS X R (.Expr e pos) (tDrop tx) (sDropX fx) := ⟨ps_expr he.pe hs, fun B η w σ F H S Dd p =>
  he.rf B η w σ F H S _ (PostX.bind p fun d η1 w1 F1 H1 S1 p v hv => p σ F1 H1 S1)⟩
def sSetX (i : Nat) (f : FX W) : FS W := fun η w => bindM (f η w) fun r w1 => .ok (.nx (r.2.set i (.fr r.1)), w1)
theorem ds_setX {i : Nat} {x : Str} {pos' : Pos} (hN : X.N.Nodup) (hi : X.N[i]? = some x) (hx : Loc X.env.scope x) (he : DX X R e tx fx) (hs : swapsWith e (some (.Name x pos')) pos.line X.env = pure false) (hf : X.fn x = true ∨ X.env.scope.names.lookup x = some .local) :
    DS X R (.Assign [.Name x pos'] e pos) (tAsg tx (gName i)) (sSetX i fx) := ⟨ps_set hN hi hx he.pe hs hf, fun B η w σ F H S Dd p =>
  he.rf B η w σ F H S _ (PostX.bind p fun d η1 w1 F1 H1 S1 p v hv => p _ F1 H1 (S1.setFr i hv))⟩
/-- y.append(..) -/
def sAppX (i : Nat) (f : FX W) : FS W := fun η w => match ownL η i with
  | some _ => bindM (f η w) fun r w1 => match ownL r.2 i with
    | some xs => match okLen xs.length with
      | true => .ok (.nx (r.2.set i (.ow (.list (xs ++ [r.1])))), w1)
      | false => .stk
    | none => .stk
  | none => .stk
theorem ref_appX {K : PySem.W.Frag} {i : Nat} (he : RefX R tx fx) : RefS R (tDrop (tBM K "list" rAppend (tVar i) (tCons tx tNil))) (sAppX i fx) := fun B η w σ F H S Dd p => by
  unfold sAppX at p
  split at p
  · rename_i xs z
    obtain ⟨q, vs, h1, h2, h3, h4, h5⟩ := S.owL z
    refine ⟨_, h1, .inl ⟨rfl, vs, SqL.of h2⟩, he B η w σ F H S _ (PostX.bind p fun d η1 w1 F1 H1 S1 p v hv => ?_)⟩
    split at p
    · rename_i xs' z'
      obtain ⟨q', vs', g1, g2, g3, g4, g5⟩ := S1.owL z'
      have eq : q' = q := by rw [h1] at g1; cases g1; rfl
      subst eq
      split at p
      · rename_i hl
        exact ⟨q', vs', v, rfl, rfl, g2, by rw [g3.len]; exact line_lt (okLen_le hl), p _ F1 _ (S1.write (ownL_some z') g1 (.lst (g3.append (.one hv))))⟩
      · exact p.elim
    · exact p.elim
  · exact p.elim
theorem ds_appX (i : Nat) {x : Str} {xpos : Pos} (hN : X.N[i]? = some x) (hv : Vis X.env.scope x) (he : DX X R e tx fx)
    (hb : attributeBase (.Name x xpos) "append" X.env (eval (.Name x xpos) X.env) = eval (.Name x xpos) X.env) (hf : ((backTo cpos (starEach (e :: []) X.env)).all (fun x => !x.1) && (backToKw cpos (keywordEach [] X.env)).all (fun x => x.1.isSome)
      && decide ((e :: []).length + ([] : List Keyword).length + (if ([] : List Keyword).isEmpty then 0 else 1) < 30)) = true) (hl : (apos.endLine == cpos.line) = true) (hs : starEach (e :: []) X.env = (false, eval e X.env) :: starEach [] X.env)
    (hp : (backTo cpos (starEach [] X.env)).any (·.1) = false) (hsw : swapsWith (.Call (.Attribute (.Name x xpos) "append" apos) [e] [] cpos) none pos.line X.env = pure false) (hd : (x == ("__debug__" : Str)) = false) (hcd : (x == ("__classdict__" : Str)) = false) :
    DS X R (.Expr (.Call (.Attribute (.Name x xpos) "append" apos) [e] [] cpos) pos) (tDrop (tBM X.K "list" rAppend (tVar i) (tCons tx tNil))) (sAppX i fx) :=
  ⟨ps_expr (pe_bm PySem.F.plainAttrs_list PySem.F.slot_list_append PySem.F.type_list_append mt_append (pe_var hN hv hd hcd) (pa_cons he.pe pa_nil hs) hb hf hl hs hp) hsw, ref_appX he.rf⟩
/-- a walk over what such an expression gives -/
structure DIX (X : Cx) (R : Rsc W) (tg iter : Expr) (wi : TI) (f : EnvD → W → Res ((List D × EnvD) × W)) : Prop where
  pi : PI X tg iter wi
  rf : ∀ (B : Bs) (η : EnvD) (w : W) (σ : L2.St) (F H : Hp), StOk R B η w σ F H → ∀ Rr : It → Hp → Prop, PostX R B σ (f η w) (fun ds F' H' => ds.length ≤ 1000000 → ∀ J, ItW R F' (fun _ => True) J ds → Rr J H') → wi σ H Rr
def iSeqX (f : FX W) : EnvD → W → Res ((List D × EnvD) × W) := fun η w => bindM (f η w) fun r w1 => match r.1 with
  | .list xs => match okLen xs.length with
    | true => .ok ((xs, r.2), w1)
    | false => .stk
  | .tuple xs => match okLen xs.length with
    | true => .ok ((xs, r.2), w1)
    | false => .stk
  | _ => .stk
theorem dix_seq {tg : Expr} (h : DX X R e tx fx) : DIX X R tg e (iSeqT X.K tx) (iSeqX fx) := ⟨pi_or (pi_list h.pe) (pi_tup h.pe), fun B η w σ F H S Rr p => by
  unfold iSeqX at p
  have key := h.rf B η w σ F H S
  revert p key
  generalize fx η w = r
  intro p key
  match r, p with
  | .ok ((.list xs, η1), w1), p =>
    simp only [bindM] at p
    split at p
    · rename_i hl
      refine .inl (key _ fun F' H' S' v hv => ?_)
      cases hv with
      | lst hf hd => exact ⟨_, rfl, ⟨_, SqL.of (S'.wok.at hf id)⟩, p F' H' S' (okLen_le hl) _ (itw_list hd fun F2 H2 w2 s _ k2 => SqL.of (k2.at (s _ _ hf) id))⟩
    · exact p.elim
  | .ok ((.tuple xs, η1), w1), p =>
    simp only [bindM] at p
    split at p
    · rename_i hl
      refine .inr (key _ fun F' H' S' v hv => ?_)
      cases hv with
      | tup hf hd => exact ⟨_, rfl, ⟨_, SqT.of (S'.wok.at hf id)⟩, p F' H' S' (okLen_le hl) _ (itw_tup hd fun F2 H2 w2 s _ k2 => SqT.of (k2.at (s _ _ hf) id))⟩
    · exact p.elim
  | .ok ((.none, _), w1), p => exact p.elim
  | .ok ((.bool _, _), w1), p => exact p.elim
  | .ok ((.int _, _), w1), p => exact p.elim
  | .ok ((.str _, _), w1), p => exact p.elim
  | .ok ((.dict _, _), w1), p => exact p.elim
  | .exc c, p => exact .inl (key _ p)
  | .stk, p => exact p.elim⟩
def sForX (fi : EnvD → W → Res ((List D × EnvD) × W)) (tg : TgF W) (g : FS W) : FS W := fun η w => bindM (fi η w) fun r w1 => forL tg g r.1 r.2 w1
/-- the turns of a for over what a walk gives -/
theorem ref_loop {g : TG} {tb : TS} {tgf : TgF W} {gb : FS W} (hg : ∀ (B : Bs) (η : EnvD) (w : W) (σ : L2.St) (F H : Hp) (v : V) (d : D) (P : L2.St → Hp → Prop), StOk R B η w σ F H → Dn F v d → PostG R B F (tgf d η w) P → g v σ H P)
    (hb : RefS R tb gb) {J : It} {ds : List D} {Dd : Ends} (S1 : StOk R B η w1 σ F1 H1) (hJ : ItW R F1 (fun _ => True) J ds) (p : PostS R B (forL tgf gb ds η w1) Dd) : tFor (fun _ H Rr => Rr J H) g tb Dd σ H1 := by
  have p1 := p.rebase S1
  have S2 := S1.rebase
  revert p1 S2
  generalize rebase B F1 = B'
  intro p1 S2
  refine ⟨fun i m σ H => ∃ η w F, StOk R B' η w σ F H ∧ Sub F1 F ∧ i ≤ ds.length ∧ m = ds.length - i ∧ PostS R B' (forL tgf gb (ds.drop i) η w) Dd, ⟨_, η, w1, F1, S2, Sub.refl F1, Nat.zero_le _, rfl, p1⟩, fun i m σ H hW => ?_⟩
  obtain ⟨η, w, F, S, sb, hle, hm, q⟩ := hW
  obtain ⟨hgo, hst⟩ := hJ F H w sb trivial S.wok
  by_cases hi : i < ds.length
  · right
    obtain ⟨h1, h2⟩ := hgo i _ (List.getElem?_eq_getElem hi)
    refine ⟨h1, fun σ' H' => ∃ η' w' F', StOk R B' η' w' σ' F' H' ∧ Sub F1 F' ∧ PostS R B' (forL tgf gb (ds.drop (i + 1)) η' w') Dd, fun σ' H' hN => ?_, fun x H' hy => ?_⟩
    · obtain ⟨η', w', F', S', sb', q'⟩ := hN
      exact ⟨ds.length - (i + 1), by omega, η', w', F', S', sb', hi, rfl, q'⟩
    · obtain ⟨F', e', k', hx⟩ := h2 x H' hy
      have S' := S.go e' k'
      rw [List.drop_eq_getElem_cons hi] at q
      refine hg B' η w σ F' H' x _ _ S' hx ?_
      unfold forL at q
      revert q
      generalize tgf ds[i] η w = r
      intro q
      match r, q with
      | .ok (η1, w1), q =>
        intro σ1 F2 H2 S2 sb2
        have S3 := S2.rebase
        refine hb _ η1 w1 σ1 F2 H2 S3 _ ?_
        have q' : PostS R B' (bindM (gb η1 w1) fun o w2 => match o with
          | .nx η' => forL tgf gb (ds.drop (i + 1)) η' w2
          | .ct η' => forL tgf gb (ds.drop (i + 1)) η' w2
          | .bk η' => .ok (.nx η', w2)
          | .rt d => .ok (.rt d, w2)) Dd := q
        revert q'
        generalize gb η1 w1 = r2
        intro q'
        have sb3 : Sub F1 F2 := (sb.trans e'.mono).trans sb2
        match r2, q' with
        | .ok (.nx η', w2), q' => exact fun σ' F' H' S' => ⟨η', w2, F', S2.unbase S', sb3.trans S'.ext.mono, q'⟩
        | .ok (.ct η', w2), q' => exact fun σ' F' H' S' => ⟨η', w2, F', S2.unbase S', sb3.trans S'.ext.mono, q'⟩
        | .ok (.bk η', w2), q' => exact fun σ' F' H' S' => q' σ' F' H' (S2.unbase S')
        | .ok (.rt d, w2), q' => exact fun v F' H' e o h => q' v F' H' (ext_unbase S2.ext e) o h
        | .exc c, q' => exact q'
        | .stk, q' => exact q'
      | .exc c, q => exact q
      | .stk, q => exact q
  · left
    have ei : i = ds.length := by omega
    refine ⟨hst i (by omega), ?_⟩
    rw [ei, List.drop_length] at q
    exact q σ F H S
theorem ds_forX {tg iter : Expr} {wi : TI} {g : TG} {tb : TS} {tgf : TgF W} {gb : FS W} {body : List Stmt} {fi : EnvD → W → Res ((List D × EnvD) × W)} (hp : PassesOwn (model X.prog X.w) X.A X.env X.xe) (hc : X.calm = true) (hi : DIX X R tg iter wi fi) (hg : DG X R tg g tgf) (hb : DSs X R body tb gb) (hs : ∀ x, foldedSetIterable iter X.env x = pure x) : DS X R (.For tg iter body [] pos) (tFor wi g tb) (sForX fi tgf gb) :=
  ⟨ps_for hp hc hi.pi hg.pg hb.ps hs, fun B η w σ F H S Dd p => hi.rf B η w σ F H S _ (PostX.bind p fun ds η1 w1 F1 H1 S1 p _ J hJ => ref_loop hg.rf hb.rf S1 hJ p)⟩
end
end Cw

set_option autoImplicit false
namespace Cw
open PySem PySem.Spec PyProof.Rows L2 LamX NdefX

/-! ### resources: codes of lambdas known; tables at foot -/
def valsOf (fs : List Addr) (n : Nat) : V := match fs[n]? with
  | some f => .ref f
  | none => .non
def rC (cs : List (Addr × Str)) (fs : List Addr) (low : Hp) : Rsc Unit where
  foot _ := False
  self := .non
  vals := valsOf fs
  low := low
  ok _ H := ∀ c ∈ cs, H c.1 = some (CodeO c.1 c.2)
  stable := fun h _ e c hc => e _ _ (h c hc)
  there _ h := h.elim
section
variable {W : Type} {R : Rsc W} {T : List (Addr × Str)} {F H F1 H1 : Hp} {w w1 : W}
theorem tabs_keep (t : Tabs T H) (k1 : ∀ b, b ∈ T.map Prod.fst → H1 b = H b) (k2 : ∀ b g, H b = some (.ext g) → H1 b = some (.ext g)) : Tabs T H1 := fun p hp => by
  obtain ⟨ps, h1, h2, h3⟩ := t p hp
  refine ⟨ps, by rw [k1 p.1 (List.mem_map.mpr ⟨p, hp, rfl⟩)]; exact h1, h2, fun pos cv hc => ?_⟩
  obtain ⟨c, e1, e2⟩ := h3 pos cv hc
  exact ⟨c, e1, k2 _ _ e2⟩
def rT (R : Rsc W) (T : List (Addr × Str)) : Rsc W where
  foot b := R.foot b ∨ b ∈ T.map Prod.fst
  self := R.self
  vals := R.vals
  low := R.low
  ok w H := R.ok w H ∧ Tabs T H ∧ ∀ b, R.foot b → b ∉ T.map Prod.fst
  stable := fun h k1 k2 => ⟨R.stable h.1 (fun b hb => k1 b (.inl hb)) k2, tabs_keep h.2.1 (fun b hb => k1 b (.inr hb)) k2, h.2.2⟩
  there := fun {w H b} h f => by
    obtain ⟨h1, h2, h3⟩ := h
    rcases f with f | f
    · exact R.there h1 f
    · obtain ⟨p, hp, e⟩ := List.mem_map.mp f
      obtain ⟨ps, h, _⟩ := h2 p hp
      exact ⟨_, by rw [← e]; exact h, show ¬ IsFrz (.tbl ps) from fun z => z⟩
/-- into a def that knows of the tables alone -/
theorem Wok.toT0 (k : Wok (rT R T) F H w) : Wok (rT R0 T) F H () := ⟨k.sub, fun {a} f => k.nf (f.elim (fun z => z.elim) .inr), ⟨trivial, k.res.2.1, fun _ z => z.elim⟩, fun a u z => by cases z⟩
theorem Ext.ofT0 (e : Ext (rT R0 T) F H F1 H1) : Ext (rT R T) F H F1 H1 :=
  ⟨e.mono, fun n q h => e.keep (fun f => n (f.elim (fun z => z.elim) .inr)) q h, fun n z h h' => e.fresh (fun f => n (f.elim (fun z => z.elim) .inr)) z h h'⟩
theorem Wok.ofT0 (k : Wok (rT R T) F H w) (e : Ext (rT R0 T) F H F1 H1) (k1 : Wok (rT R0 T) F1 H1 ()) : Wok (rT R T) F1 H1 w := by
  have ex : ∀ b g, H b = some (.ext g) → H1 b = some (.ext g) := fun b g h => Ext.ext k.toT0 e k1 (fun f => by
    obtain ⟨o, ho, _⟩ := (rT R0 T).there k.toT0.res f
    rcases f with f | f
    · exact f.elim
    · obtain ⟨p, hp, ep⟩ := List.mem_map.mp f
      obtain ⟨ps, hps, _⟩ := k.res.2.1 p hp
      rw [ep, h] at hps
      cases hps) h
  have nT : ∀ b, R.foot b → ¬ (rT R0 T).foot b := fun b fb f => f.elim (fun z => z.elim) (k.res.2.2 b fb)
  refine ⟨k1.sub, fun {a} f => ?_, ⟨R.stable k.res.1 (fun b fb => ?_) ex, k1.res.2.1, k.res.2.2⟩, fun a u h => e.mono a u (k.low a u h)⟩
  · rcases f with f | f
    · obtain ⟨o, ho, no⟩ := R.there k.res.1 f
      exact e.fresh (nT a f) no ho (k.nf (.inl f))
    · exact k1.nf (.inr f)
  · obtain ⟨o, ho, _⟩ := R.there k.res.1 fb
    rw [ho]; exact e.keep (nT b fb) (.inl (k.nf (.inl fb))) ho
/-- into a def that knows of the thing alone, not of the tables -/
theorem Wok.toB (k : Wok (rT R T) F H w) : Wok R F H w := ⟨k.sub, fun f => k.nf (.inl f), k.res.1, k.low⟩
theorem Ext.ofB (e : Ext R F H F1 H1) : Ext (rT R T) F H F1 H1 := ⟨e.mono, fun n q h => e.keep (fun f => n (.inl f)) q h, fun n z h h' => e.fresh (fun f => n (.inl f)) z h h'⟩
theorem Wok.ofB (k : Wok (rT R T) F H w) (e : Ext R F H F1 H1) (k1 : Wok R F1 H1 w1) : Wok (rT R T) F1 H1 w1 := by
  have nR : ∀ b, b ∈ T.map Prod.fst → ¬ R.foot b := fun b hb f => k.res.2.2 b f hb
  have tb : ∀ b, b ∈ T.map Prod.fst → ∃ ps, H b = some (.tbl ps) := fun b hb => by
    obtain ⟨p, hp, ep⟩ := List.mem_map.mp hb
    obtain ⟨ps, hps, _⟩ := k.res.2.1 p hp
    exact ⟨ps, by rw [← ep]; exact hps⟩
  have ex : ∀ b g, H b = some (.ext g) → H1 b = some (.ext g) := fun b g h => by
    have f : ¬ R.foot b := fun f => by
      obtain ⟨o, ho, no⟩ := R.there k.res.1 f
      rw [h] at ho
      cases ho
      exact no trivial
    exact Ext.ext k.toB e k1 f h
  refine ⟨k1.sub, fun {a} f => ?_, ⟨k1.res, tabs_keep k.res.2.1 (fun b hb => ?_) ex, k.res.2.2⟩, k1.low⟩
  · rcases f with f | f
    · exact k1.nf f
    · obtain ⟨ps, hps⟩ := tb a f
      exact e.fresh (nR a f) (show ¬ IsFrz (.tbl ps) from fun z => z) hps (k.nf (.inr f))
  · obtain ⟨ps, hps⟩ := tb b hb
    rw [hps]; exact e.keep (nR b hb) (.inl (k.nf (.inr hb))) hps
end
end Cw

set_option autoImplicit false
namespace Cw
open PySem PySem.Spec PyProof.Rows L2 LamX NdefX

/-! ### what a lambda of one parameter is worth, called where more is frozen than low -/
def spM (low : Hp) (m : List D → Res D) : List V → Hp → VK → Prop := fun vs H Q => ∃ (F : Hp) (d : D), Wok (rC [] [] low) F H () ∧ DnL F vs [d] ∧ Post (rC [] [] low) F H (fun _ => False) (liftM (m [d]) ()) (PV Q)
/-- .. of one with captured names: the slots' data at its making are cs -/
def spL (ml : List D → List D → Res D) : List (Option V) → Sp := fun ws vs H Q _ => ∃ (low F : Hp) (d : D) (cs : List D) (us : List V), ws = us.map some ∧ DnL low us cs ∧ Wok (rC [] [] low) F H () ∧ DnL F vs [d] ∧ Post (rC [] [] low) F H (fun _ => False) (liftM (ml cs [d]) ()) (PV Q)
/-- a lambda that stands in the state (s, H), worth m -/
structure LamAt (P : Program) (w : World) (K : PySem.W.Frag) (mg : Str → Option Value) (base : Heap) (k : Nat) (s : Shared) (H low : Hp) (f c : Addr) (q : Str) (m : List D → Res D) where
  F : Lm
  ps : List Str
  fr : List Str
  sp : List (Option V) → Sp
  ws : List (Option V)
  c_ : F.nf.c = c
  q_ : F.nf.qual = q
  one : ps.length = 1
  ok : LOk P w K mg base k f F ps fr sp
  is : IsLm f F s.heap
  no : H f = none
  cells : CellsAt F.nf.cl fr ws s.heap H
  worth : ∀ vs H' Q, spM low m vs H' Q → sp ws vs H' Q E0
section
variable {W : Type} {R : Rsc W} {F H F1 H1 : Hp} {w w1 : W}
/-- what has no foot: as R0 -/
theorem Wok.toC {cs : List (Addr × Str)} {fs : List Addr} {low : Hp} (k : Wok R F H w) (h : ∀ c ∈ cs, H c.1 = some (CodeO c.1 c.2)) (l : Sub low F) : Wok (rC cs fs low) F H () := ⟨k.sub, fun h => h.elim, h, l⟩
theorem Ext.ofC {cs : List (Addr × Str)} {fs : List Addr} {low : Hp} (e : Ext (rC cs fs low) F H F1 H1) : Ext R F H F1 H1 := ⟨e.mono, fun _ q h => e.keep (fun x => x) q h, fun _ z h h' => e.fresh (fun x => x) z h h'⟩
theorem Ext.toC {cs cs' : List (Addr × Str)} {fs fs' : List Addr} {low low' : Hp} (e : Ext (rC cs fs low) F H F1 H1) : Ext (rC cs' fs' low') F H F1 H1 := e.ofC
theorem Wok.ofC {cs : List (Addr × Str)} {fs : List Addr} {low : Hp} (k : Wok R F H w) (e : Ext (rC cs fs low) F H F1 H1) (k1 : Wok (rC cs fs low) F1 H1 ()) : Wok R F1 H1 w := by
  refine ⟨k1.sub, fun {a} fa => ?_, R.stable k.res (fun b fb => ?_) fun b g h => e.keep (fun x => x) (.inr trivial) h, fun a u h => e.mono a u (k.low a u h)⟩
  · obtain ⟨o, h, no⟩ := R.there k.res fa
    exact e.fresh (fun x => x) no h (k.nf fa)
  · obtain ⟨o, h, _⟩ := R.there k.res fb
    rw [h]; exact e.keep (fun x => x) (.inl (k.nf fb)) h
theorem Post.toC {cs : List (Addr × Str)} {fs : List Addr} {low : Hp} {Xc : String → Prop} {r : Res D} {Q : VK} (nx : ∀ c, r ≠ .exc c) (k : Wok R F H w) (p : Post R F H Xc (liftM r w) (PV Q)) : Post (rC cs fs low) F H (fun _ => False) (liftM r ()) (PV Q) := by
  match r, nx, p with
  | .ok d, _, p => exact fun F' H' e o v hv => p F' H' (Ext.ofC e) (k.ofC e o) v hv
  | .exc c, nx, _ => exact (nx c rfl).elim
  | .stk, _, p => exact p.elim
end
/-! ### the call of a parameter -/
def eFnV (i n : Nat) (f : List D → Res D) (fe : FE Unit) : FE Unit := fun η w => match η[i]? with
  | some (.vl k) => match Nat.beq k n with
    | true => bindM (fe η w) fun d w1 => liftM (noX (f [d])) w1
    | false => .stk
  | _ => .stk
def eFnVX (i n : Nat) (f : List D → Res D) (fx : FX Unit) : FX Unit := fun η w => match η[i]? with
  | some (.vl k) => match Nat.beq k n with
    | true => bindM (fx η w) fun r w1 => bindM (liftM (noX (f [r.1])) w1) fun d w2 => .ok ((d, r.2), w2)
    | false => .stk
  | _ => .stk
section
variable {Z : Cx} {cs : List (Addr × Str)} {fs : List Addr} {low : Hp} {i j k n : Nat} {f c : Addr} {q : Str} {m : List D → Res D} {x : Str} {e : Expr} {te : TE} {fe : FE Unit} {fx : FX Unit} {p pos : Pos}
theorem lam_worth (L : LamAt Z.prog Z.w Z.K Z.mg Z.base k Z.s_0 Z.H_0 low f c q m) {F H : Hp} {v : V} {d : D} {Q : VK} (kk : Wok (rC cs fs low) F H ()) (hv : Dn F v d) (p : Post (rC cs fs low) F H (fun _ => False) (liftM (noX (m [d])) ()) (PV Q)) : L.sp L.ws [v] H Q E0 := by
  refine L.worth _ _ _ ⟨F, d, kk.toC (fun _ h => by cases h) kk.low, .one hv, ?_⟩
  have p' := Post.toC (cs := []) (fs := []) (low := low) (fun c => noX_ne) kk p
  revert p'
  generalize m [d] = r
  intro p'
  match r, p' with
  | .ok d, p' => exact p'
  | .exc c, p' => exact p'.elim
  | .stk, p' => exact p'.elim
theorem de_callV (L : LamAt Z.prog Z.w Z.K Z.mg Z.base k Z.s_0 Z.H_0 low f c q m) (n : Nat) (hf : fs[n]? = some f) (hc : (c, q) ∈ cs) (hx : Z.ex = []) (hr : Room j Z.A) (hk : k ≤ j) (i : Nat) (hN : Z.N[i]? = some x) (hv : Vis Z.env.scope x) (ha : DE Z (rC cs fs low) e te fe)
    (hd : (x == ("__debug__" : Str)) = false) (hcd : (x == ("__classdict__" : Str)) = false) (he : starEach [e] Z.env = (false, eval e Z.env) :: starEach [] Z.env) (hpl : (backTo pos (starEach [] Z.env)).any (·.1) = false) :
    DE Z (rC cs fs low) (.Call (.Name x p) [e] [] pos) (tCallV i f L.F L.ps.length (L.sp L.ws) (tCons te tNil)) (eFnV i n m fe) :=
  ⟨pe_callV L.ok hr hk L.is L.no L.cells hx hN hv (pa_cons ha.pe pa_nil he) hd hcd he hpl, fun B η w σ F H S Q q => by
    unfold eFnV at q
    split at q
    · rename_i kk hi
      split at q
      · rename_i hb
        have hn := Nat.eq_of_beq_eq_true hb
        subst hn
        have hs := S.vl hi
        have hs' : σ[i]? = some (some (V.ref f)) := by
          rw [hs]
          show some (some (valsOf fs kk)) = _
          unfold valsOf; rw [hf]
        refine ⟨hs', ha.rf B η w σ F H S _ (q.bind fun d w1 F1 H1 e1 k1 q v hv => ?_)⟩
        refine ⟨by rw [L.c_, L.q_]; exact k1.res _ hc, by rw [L.one]; rfl, lam_worth L k1 hv (q.nox fun c => noX_ne)⟩
      · exact q.elim
    · exact q.elim⟩
theorem dx_callV (L : LamAt Z.prog Z.w Z.K Z.mg Z.base k Z.s_0 Z.H_0 low f c q m) (n : Nat) (hf : fs[n]? = some f) (hc : (c, q) ∈ cs) (hx : Z.ex = []) (hr : Room j Z.A) (hk : k ≤ j) (i : Nat) (hN : Z.N[i]? = some x) (hv : Vis Z.env.scope x) (ha : DX Z (rC cs fs low) e te fx)
    (hd : (x == ("__debug__" : Str)) = false) (hcd : (x == ("__classdict__" : Str)) = false) (he : starEach [e] Z.env = (false, eval e Z.env) :: starEach [] Z.env) (hpl : (backTo pos (starEach [] Z.env)).any (·.1) = false) :
    DX Z (rC cs fs low) (.Call (.Name x p) [e] [] pos) (tCallV i f L.F L.ps.length (L.sp L.ws) (tCons te tNil)) (eFnVX i n m fx) :=
  ⟨pe_callV L.ok hr hk L.is L.no L.cells hx hN hv (pa_cons ha.pe pa_nil he) hd hcd he hpl, fun B η w σ F H S Q q => by
    unfold eFnVX at q
    split at q
    · rename_i kk hi
      split at q
      · rename_i hb
        have hn := Nat.eq_of_beq_eq_true hb
        subst hn
        have hs := S.vl hi
        have hs' : σ[i]? = some (some (V.ref f)) := by
          rw [hs]
          show some (some (valsOf fs kk)) = _
          unfold valsOf; rw [hf]
        refine ⟨hs', ha.rf B η w σ F H S _ (PostX.bindX q fun d η1 w1 F1 H1 S1 q v hv => ?_)⟩
        refine ⟨by rw [L.c_, L.q_]; exact S1.wok.res _ hc, by rw [L.one]; rfl, lam_worth L S1.wok hv (Post.nox (fun c => noX_ne) (Xc := B.X) ?_)⟩
        revert q
        generalize noX (m [d]) = r
        intro q
        match r, q with
        | .ok d', q => exact fun F2 H2 e2 k2 y hy => q F2 H2 (S1.go e2 k2) y hy
        | .exc c, q => exact q
        | .stk, q => exact q.elim
      · exact q.elim
    · exact q.elim⟩
end
/-! ### the body of a def that got lambdas -/
/-- n data parameters, nl lambdas, N names -/
def runV (n nl N : Nat) (g : FS Unit) (ds : List D) : Res D := match Nat.beq ds.length n with
  | false => .stk
  | true => match g (ds.map Slot.fr ++ ((List.range nl).map Slot.vl ++ List.replicate (N - n - nl) Slot.un)) () with
    | .ok (.rt d, _) => .ok d
    | .ok (.nx _, _) => .ok .none
    | .exc c => .exc c
    | _ => .stk
theorem noV_ow {nl N i : Nat} {d : D} (h : ((List.range nl).map Slot.vl ++ List.replicate N Slot.un)[i]? = some (Slot.ow d)) : False := by
  rcases List.mem_append.mp (List.mem_of_getElem? h) with m | m
  · obtain ⟨_, _, e⟩ := List.mem_map.mp m; cases e
  · cases (List.mem_replicate.mp m).2
theorem noV_tx {nl N i : Nat} {d : D} (h : ((List.range nl).map Slot.vl ++ List.replicate N Slot.un)[i]? = some (Slot.tx d)) : False := by
  rcases List.mem_append.mp (List.mem_of_getElem? h) with m | m
  · obtain ⟨_, _, e⟩ := List.mem_map.mp m; cases e
  · cases (List.mem_replicate.mp m).2
theorem noV_fr {nl N i : Nat} {d : D} (h : ((List.range nl).map Slot.vl ++ List.replicate N Slot.un)[i]? = some (Slot.fr d)) : False := by
  rcases List.mem_append.mp (List.mem_of_getElem? h) with m | m
  · obtain ⟨_, _, e⟩ := List.mem_map.mp m; cases e
  · cases (List.mem_replicate.mp m).2
theorem noV_hd {nl N i : Nat} (h : ((List.range nl).map Slot.vl ++ List.replicate N Slot.un)[i]? = some Slot.hd) : False := by
  rcases List.mem_append.mp (List.mem_of_getElem? h) with m | m
  · obtain ⟨_, _, e⟩ := List.mem_map.mp m; cases e
  · cases (List.mem_replicate.mp m).2
theorem map_fr {ds : List D} {i : Nat} {s : Slot} (h : (ds.map Slot.fr)[i]? = some s) : ∃ d, s = .fr d ∧ ds[i]? = some d := by
  rw [List.getElem?_map] at h
  cases e : ds[i]? with
  | none => rw [e] at h; cases h
  | some d => rw [e] at h; exact ⟨d, (Option.some.inj h).symm, rfl⟩
theorem StOk.startV {cs : List (Addr × Str)} {fs : List Addr} {low F H : Hp} {vs : List V} {ds : List D} {Nm : List Str} (k : Wok (rC cs fs low) F H ()) (h : DnL F vs ds) (n nl : Nat) (hn : ds.length = n) (hl : fs.length = nl) (Xc : String → Prop) :
    StOk (rC cs fs low) ⟨F, H, Xc⟩ (ds.map Slot.fr ++ ((List.range nl).map Slot.vl ++ List.replicate (Nm.length - n - nl) Slot.un)) () (L2.start Nm (vs ++ fs.map V.ref)) F H := by
  subst hn hl
  have lv := h.len
  have st : L2.start Nm (vs ++ fs.map V.ref) = vs.map some ++ ((fs.map V.ref).map some ++ List.replicate (Nm.length - ds.length - fs.length) none) := by
    unfold L2.start
    rw [List.map_append, List.append_assoc]
    simp [lv, Nat.sub_sub]
  rw [st]
  have back : ∀ {i : Nat} {s : Slot}, (ds.map Slot.fr ++ ((List.range fs.length).map Slot.vl ++ List.replicate (Nm.length - ds.length - fs.length) Slot.un))[i]? = some s → (∃ d, s = .fr d ∧ ds[i]? = some d) ∨ (ds.length ≤ i ∧ ((List.range fs.length).map Slot.vl ++ List.replicate (Nm.length - ds.length - fs.length) Slot.un)[i - ds.length]? = some s) := fun {i s} e => by
    by_cases hi : i < ds.length
    · rw [List.getElem?_append_left (by simpa using hi)] at e
      exact .inl (map_fr e)
    · rw [List.getElem?_append_right (by simpa using Nat.le_of_not_lt hi), List.length_map] at e
      exact .inr ⟨Nat.le_of_not_lt hi, e⟩
  refine ⟨k, .refl, by simp [lv], fun {i d} e => ?_, fun {i d} e => ?_, fun {i} e => ?_, fun {i n} e => ?_, fun {i j d d' p} e => ?_, fun {i d} e => ?_⟩
  · rcases back e with ⟨d', e', hd⟩ | ⟨_, e'⟩
    · cases e'
      obtain ⟨v, h1, h2⟩ := h.get i hd
      refine ⟨v, ?_, h2⟩
      rw [List.getElem?_append_left (by rw [List.length_map]; exact (List.getElem?_eq_some_iff.mp h1).1), List.getElem?_map, h1]; rfl
    · exact (noV_fr e').elim
  · rcases back e with ⟨d', e', _⟩ | ⟨_, e'⟩
    · cases e'
    · exact (noV_ow e').elim
  · rcases back e with ⟨d', e', _⟩ | ⟨_, e'⟩
    · cases e'
    · exact (noV_hd e').elim
  · rcases back e with ⟨d', e', _⟩ | ⟨hi, e'⟩
    · cases e'
    · by_cases hl : i - ds.length < fs.length
      · rw [List.getElem?_append_left (by simpa using hl), List.getElem?_map, List.getElem?_range hl] at e'
        cases e'
        rw [List.getElem?_append_right (by rw [List.length_map, lv]; exact hi), List.length_map, lv, List.getElem?_append_left (by simpa using hl), List.getElem?_map, List.getElem?_map, List.getElem?_eq_getElem hl]
        show some (some (V.ref _)) = some (some (valsOf fs _))
        unfold valsOf
        rw [List.getElem?_eq_getElem hl]
      · rw [List.getElem?_append_right (by simpa using Nat.le_of_not_lt hl)] at e'
        cases (List.mem_replicate.mp (List.mem_of_getElem? e')).2
  · rcases back e with ⟨d', e', _⟩ | ⟨_, e'⟩
    · cases e'
    · exact (noV_ow e').elim
  · rcases back e with ⟨d', e', _⟩ | ⟨_, e'⟩
    · cases e'
    · exact (noV_tx e').elim
end Cw

set_option autoImplicit false
namespace Cw
open PySem PySem.Spec PyProof.Rows L2 LamX NdefX
/-! ### a def that got lambdas -/
def Lams (P : Program) (w : World) (K : PySem.W.Frag) (mg : Str → Option Value) (base : Heap) (k : Nat) (s : Shared) (H low : Hp) : List Addr → List (Addr × Str) → List (List D → Res D) → Prop
  | [], [], [] => True
  | f :: fs, c :: cs, m :: ms => Nonempty (LamAt P w K mg base k s H low f c.1 c.2 m) ∧ Lams P w K mg base k s H low fs cs ms
  | _, _, _ => False
structure CalleeL (P : Program) (w : World) (K : PySem.W.Frag) (mg : Str → Option Value) (base : Heap) (x : Str) (k n nl : Nat) (m : List (List D → Res D) → List D → Res D) : Prop where
  ex : ∃ (g : Addr) (fd : FuncData) (ps : List Str), mg x = some (.ref g) ∧ PySem.W.keepIn K (.ref g) = true ∧ Binds K fd ps [] ∧ ps.length = n + nl ∧
    ∀ (A : Around) (outer : List Env) (s : Shared) (H : Hp) (args : Args) (us : List Value) (vs : List V) (fs : List Addr) (cs : List (Addr × Str)) (ms : List (List D → Res D)) (low F : Hp) (ds : List D) (Q : VK),
      Room (k + 1) A → Env0 P w K mg base A outer s H → BindsTo s fd args (ps.zip us) → Vals (vs ++ fs.map V.ref) us → fs.length = nl → Lams P w K mg base k s H low fs cs ms → Wok (rC cs fs low) F H () → DnL F vs ds →
      Post (rC cs fs low) F H (fun _ => False) (liftM (m ms ds) ()) (PV Q) → codeAny (model P w) A (.call (.ref g) args) (CR CX0 outer P w H s Q E0) s
section
variable {P : Program} {w : World} {K : PySem.W.Frag} {mg : Str → Option Value} {base : Heap} {x : Str} {st : Stmt} {g : Addr} {fd : FuncData} {N ps : List Str} {k n nl : Nat} {gm : List (List D → Res D) → FS Unit}
theorem okL (F : Fun K x x st g fd) (S : FnScope N ps (defScope st)) (hps : ps.length = n + nl)
    (hbody : ∀ (cdv : Value) (A : Around) (outer : List Env) (s : Shared) (H : Hp) (fs : List Addr) (cs : List (Addr × Str)) (ms : List (List D → Res D)) (low : Hp), Room k (A.deeper (envOfC x (defScope st) s.heap.objs.size g cdv)) → Lams P w K mg base k s H low fs cs ms → fs.length = nl →
      ∃ t, DSs (cxOf CX0 P w K mg base N x (defScope st) g cdv A outer s H E0).nox (rC cs fs low) (defBody st) t (gm ms)) :
    ∀ (A : Around) (outer : List Env) (s : Shared) (H : Hp) (args : Args) (us : List Value) (vs : List V) (fs : List Addr) (cs : List (Addr × Str)) (ms : List (List D → Res D)) (low F : Hp) (ds : List D) (Q : VK),
      Room (k + 1) A → Env0 P w K mg base A outer s H → BindsTo s fd args (ps.zip us) → Vals (vs ++ fs.map V.ref) us → fs.length = nl → Lams P w K mg base k s H low fs cs ms → Wok (rC cs fs low) F H () → DnL F vs ds →
      Post (rC cs fs low) F H (fun _ => False) (liftM (runV n nl N.length (gm ms) ds) ()) (PV Q) → codeAny (model P w) A (.call (.ref g) args) (CR CX0 outer P w H s Q E0) s := by
  intro A outer s H args us vs fs cs ms low Fz ds Q hr e0 hb rv hl hL kw hd p
  obtain ⟨oc, od, kV, doc, pm, an, cdv, ct, osl, rfl, lk, hcd⟩ := F.ex
  unfold runV at p
  split at p
  · exact p.elim
  · rename_i hbq
    have hn : ds.length = n := Nat.eq_of_beq_eq_true hbq
    refine run_ofS (N := N) (ps := ps) lk hcd S hr e0 hb rv (by rw [List.length_append, List.length_map, hd.len, hps]; omega) fun hr' => ?_
    obtain ⟨t, hdss⟩ := hbody cdv A outer s H fs cs ms low hr' hL hl
    refine ⟨t, hdss.ps.nox, ?_⟩
    refine hdss.rf _ _ _ _ Fz H (StOk.startV (Nm := N) kw hd n nl hn hl (fun _ => False)) _ ?_
    revert p
    generalize gm ms (ds.map Slot.fr ++ ((List.range nl).map Slot.vl ++ List.replicate (N.length - n - nl) Slot.un)) () = r
    intro p
    match r, p with
    | .ok (.rt d, ()), p => exact fun v F' H' e o hv => p F' H' e o v hv
    | .ok (.nx η, ()), p => exact fun σ' F' H' S => p F' H' S.ext S.wok _ .non
    | .ok (.bk η, ()), p => exact p.elim
    | .ok (.ct η, ()), p => exact p.elim
    | .exc c, p => exact p
    | .stk, p => exact p.elim
end
/-! ### a lambda by its expression -/
def runE (nf N : Nat) (g : FE Unit) (cs ds : List D) : Res D := match ds with
  | [d] => match Nat.beq cs.length nf with
    | true => match g ((d :: cs).map Slot.fr ++ List.replicate (N - 1 - nf) Slot.un) () with
      | .ok (d, _) => .ok d
      | .exc c => .exc c
      | .stk => .stk
    | false => .stk
  | _ => .stk
theorem StOk.startF {W : Type} {R : Rsc W} {w : W} {F H : Hp} {vs : List V} {ds : List D} (k : Wok R F H w) (h : DnL F vs ds) (m : Nat) (Xc : String → Prop) : StOk R ⟨F, H, Xc⟩ (ds.map Slot.fr ++ List.replicate m Slot.un) w (vs.map some ++ List.replicate m none) F H where
  wok := k
  ext := .refl
  len := by simp [h.len]
  fr := fun e => h.at_map e
  ow := fun e => (no_ow e).elim
  hd := fun e => (no_hd e).elim
  vl := fun e => (no_vl e).elim
  inj := fun e => (no_ow e).elim
  tx := fun e => (no_tx e).elim
section
variable {P : Program} {w : World} {K : PySem.W.Frag} {mg : Str → Option Value} {base : Heap} {N ps fr : List Str} {F : Lm} {f : Addr} {k : Nat} {ge : FE Unit}
theorem lokL (S : NScope N ps fr F.nf.scope) (one : ps.length = 1) (hb : ∀ (pm ctv : Value) (us : List Value), us.length = ps.length → bindArgs (PySem.W.kla_fn F.nf.name F.nf.qual F.nf.params F.e F.nf.scope F.nf.cl pm (.ref F.nf.c) ctv) ⟨us, []⟩ = pure (ps.zip us))
    (hbody : ∀ (A : Around) (outer : List Env) (s : Shared) (H : Hp) (E : XK) (low : Hp), Room k (A.deeper (envF F.nf f s.heap.objs.size)) → ∃ t, DE (ncx CX0 P w K mg base N F.nf f A outer s H E).nox (rC [] [] low) F.e t ge) :
    LOk P w K mg base (k + 1) f F ps fr (spL (runE fr.length N.length ge)) := by
  refine lok_of S hb fun A outer s H vs ws Q E hr hw hsp => ?_
  obtain ⟨low, Fz, d, cs, us, rfl, hus, kw, hd, p⟩ := hsp
  obtain ⟨t, ht⟩ := hbody A outer s H E low hr
  refine ⟨t, ht.pe.nox, ?_⟩
  unfold runE at p
  dsimp only at p
  split at p
  · rename_i hbq
    have hn := Nat.eq_of_beq_eq_true hbq
    have lus := hus.len
    have all : DnL Fz (vs ++ us) (d :: cs) := hd.append (hus.mono kw.low)
    have lv := hd.len
    have st : NdefX.startF N vs (us.map some) = (vs ++ us).map some ++ List.replicate (N.length - 1 - fr.length) none := by
      unfold NdefX.startF
      rw [List.map_append, List.append_assoc, List.length_map, lus, lv, hn]; rfl
    rw [st]
    refine ht.rf ⟨Fz, H, fun _ => False⟩ _ () _ Fz H (StOk.startF kw all _ _) Q ?_
    revert p
    generalize ge ((d :: cs).map Slot.fr ++ List.replicate (N.length - 1 - fr.length) Slot.un) () = r
    intro p
    match r, p with
    | .ok (d, ()), p => exact p
    | .exc c, p => exact p.elim
    | .stk, p => exact p.elim
  · exact p.elim
end
end Cw

set_option autoImplicit false
namespace Cw
open PySem PySem.Spec PyProof.Rows L2 LamX NdefX
/-! ### lambdas made in a call's arguments -/
section
variable {X : Cx} {k : Nat} {T : List (Addr × Str)} {c P : Addr} {σ : L2.St}
structure LmD (X : Cx) (k : Nat) (e : Expr) (js : List Nat) (ml : List D → List D → Res D) : Prop where
  ex : ∃ (params : Arguments) (body : Expr) (scope : Scope) (lpos : Pos) (ps fr : List Str), e = .Lambda params body scope lpos ∧ ps.length = 1 ∧ (∀ f c', LOk X.prog X.w X.K X.mg X.base k f (mkLm X params body scope c') ps fr (spL ml)) ∧ defaultsOf params X.env = ([], []) ∧
    (∀ y ∈ scope.names, y.2 = .free → X.env.scope.names.lookup y.1 = some .cell ∨ X.env.scope.names.lookup y.1 = some .free) ∧ (∀ y ∈ fr, (y, NameKind.free) ∈ scope.names) ∧ js.map (fun j => X.N[j]?) = fr.map some
inductive LmDs (X : Cx) (k : Nat) : List Expr → List (List Nat × (List D → List D → Res D)) → Prop
  | nil : LmDs X k [] []
  | cons {e : Expr} {es : List Expr} {js : List Nat} {ml : List D → List D → Res D} {ls : List (List Nat × (List D → List D → Res D))} : LmD X k e js ml → starEach (e :: es) X.env = (false, eval e X.env) :: starEach es X.env → LmDs X k es ls → LmDs X k (e :: es) ((js, ml) :: ls)
/-- a made lambda in the state (s, H) -/
def Made (X : Cx) (k : Nat) (σ : L2.St) (s : Shared) (H : Hp) (f : Addr) (c : Addr × Str) (js : List Nat) (ml : List D → List D → Res D) : Prop :=
  ∃ (params : Arguments) (body : Expr) (scope : Scope) (ps fr : List Str), ps.length = 1 ∧ c.2 = X.env.qual ++ "<lambda>" ∧ LOk X.prog X.w X.K X.mg X.base k f (mkLm X params body scope c.1) ps fr (spL ml) ∧ IsLm f (mkLm X params body scope c.1) s.heap ∧ H f = none ∧
    H c.1 = some (CodeO c.1 c.2) ∧ CellsAt (cloFrom X.env.cells scope.names []) fr (js.map (slotAt σ)) s.heap H
def Mades (X : Cx) (k : Nat) (σ : L2.St) (s : Shared) (H : Hp) : List Addr → List (Addr × Str) → List (List Nat × (List D → List D → Res D)) → Prop
  | [], [], [] => True
  | f :: fs, c :: cs, l :: ls => Made X k σ s H f c l.1 l.2 ∧ Mades X k σ s H fs cs ls
  | _, _, _ => False
theorem Inv.addPin {pins : List (Addr × Obj)} {H : Hp} {s : Shared} {f : Addr} {o : Obj} (I : L2.Inv X pins σ H s) (h1 : s.heap.get? f = some o) (h2 : H f = none) (h3 : f ≠ X.env.locals) (h4 : f ∉ X.fs) (h5 : ∀ v, o.data ≠ .cell v) : L2.Inv X ((f, o) :: pins) σ H s :=
  have key : ∀ p ∈ X.pn ++ ((f, o) :: pins), s.heap.get? p.1 = some p.2 ∧ H p.1 = none ∧ p.1 ≠ X.env.locals ∧ p.1 ∉ X.fs ∧ ∀ v, p.2.data ≠ .cell v := fun p hp => by
    rcases List.mem_append.mp hp with hp | hp
    · exact I.pin p (List.mem_append_left _ hp)
    · rcases List.mem_cons.mp hp with rfl | hp
      · exact ⟨h1, h2, h3, h4, h5⟩
      · exact I.pin p (List.mem_append_right _ hp)
  { I with pin := key }
theorem Inv.dropPin {pins : List (Addr × Obj)} {H : Hp} {s : Shared} {p : Addr × Obj} (I : L2.Inv X (p :: pins) σ H s) : L2.Inv X pins σ H s ∧ s.heap.get? p.1 = some p.2 ∧ H p.1 = none :=
  have key : ∀ q ∈ X.pn ++ pins, s.heap.get? q.1 = some q.2 ∧ H q.1 = none ∧ q.1 ≠ X.env.locals ∧ q.1 ∉ X.fs ∧ ∀ v, q.2.data ≠ .cell v := fun q hq => by
    rcases List.mem_append.mp hq with hq | hq
    · exact I.pin q (List.mem_append_left _ hq)
    · exact I.pin q (List.mem_append_right _ (List.mem_cons_of_mem _ hq))
  ⟨{ I with pin := key }, (I.pin p (List.mem_append_right _ List.mem_cons_self)).1, (I.pin p (List.mem_append_right _ List.mem_cons_self)).2.1⟩
theorem eval_lams (TB : TabB X.base X.mg c P) (hcode : X.env.code = .ref c) (hm : (P, X.env.qual ++ "<lambda>") ∈ T) (hu : ∀ p ∈ T, p.1 = P → p.2 = X.env.qual ++ "<lambda>") (pos : Pos) {es : List Expr} {ls : List (List Nat × (List D → List D → Res D))} (h : LmDs X k es ls) :
    ∀ (pins : List (Addr × Obj)) (s : Shared) (H : Hp), L2.Inv X pins σ H s → Tabs T H →
      wpAny (model X.prog X.w) X.A (spliced (backTo pos (starEach es X.env))) (fun us s' => ∃ (fs : List Addr) (cs : List (Addr × Str)) (H' : Hp), L2.Inv X pins σ H' s' ∧ (∀ b o, b ≠ P → H b = some o → H' b = some o) ∧ Tabs T H' ∧ us = fs.map Value.ref ∧ Mades X k σ s' H' fs cs ls) X.xe s := by
  induction h with
  | nil => exact fun pins s H I hT => Calls.spliced_nil ⟨[], [], H, I, fun _ _ _ h => h, hT, rfl, trivial⟩
  | @cons e es js ml ls hL hs hr ih =>
    intro pins s H I hT
    obtain ⟨params, body, scope, lpos, ps, fr, rfl, one, ok, hdef, hfree, hfr, hjs⟩ := hL.ex
    rw [hs]
    show wpAny _ _ (spliced ((false, eval (.Lambda params body scope lpos) X.env) :: backTo pos (starEach es X.env))) _ _ s
    refine Calls.spliced_cons (lam_mk I TB hcode hm hu hT hdef (fun y hy e => (hfree y hy e).elim (fun z => I.ok.has _ (.inl z)) fun z => I.ok.has _ (.inr z)) fun f c' H1 s1 I1 st1 T1 isl hsz hfn hco => ?_)
    obtain ⟨sl, pm, ctv, ho⟩ := isl
    have nofr : f ∉ X.fs := fun z => I.nofs hsz z
    have noloc : f ≠ X.env.locals := fun z => by have h1 := I.lt; rw [← z] at h1; exact Nat.lt_irrefl _ (Nat.lt_of_lt_of_le h1 hsz)
    have Ip := Inv.addPin I1 ho hfn noloc nofr (fun v z => by cases z)
    refine thn (ih _ s1 H1 Ip T1) fun us s2 ⟨fs, cs, H2, I2, st2, T2, eus, md⟩ => ?_
    obtain ⟨I3, p1, p2⟩ := Inv.dropPin I2
    obtain ⟨ps0, hP, _⟩ := T1 _ hm
    have c2 : H2 c' = some (CodeO c' (X.env.qual ++ "<lambda>")) := st2 _ _ (fun z => by
      rw [z, hP] at hco
      exact codeO_ne _ (Option.some.inj hco).symm) hco
    refine ⟨f :: fs, (c', X.env.qual ++ "<lambda>") :: cs, H2, I3, fun b o n z => st2 b o n (st1 b o n z), T2, by rw [eus]; rfl, ⟨params, body, scope, ps, fr, one, rfl, ok f c', ⟨sl, pm, ctv, p1⟩, p2, c2, ?_⟩, md⟩
    exact cells_of I3 (Caps.made I3.ok hfree hfr hjs)
/-- what the captured slots hold, as data -/
def CapV (F : Hp) (σ : L2.St) : List (List Nat × (List D → List D → Res D)) → List (List D → Res D) → Prop
  | [], [] => True
  | l :: ls, m :: ms => (∃ (cs : List D) (us : List V), l.1.map (slotAt σ) = us.map some ∧ DnL F us cs ∧ m = l.2 cs) ∧ CapV F σ ls ms
  | _, _ => False
def tCallL (T : List (Addr × Str)) (P : Addr) (te : TE) (ls : List (List Nat × (List D → List D → Res D))) (m : List (List D → Res D) → List D → Res D) : TE := fun σ H Q => te σ H fun v0 H1 => Tabs T H1 ∧ ∀ (H2 : Hp) (fs : List Addr) (cs : List (Addr × Str)), (∀ b o, b ≠ P → H1 b = some o → H2 b = some o) → Tabs T H2 → (∀ c ∈ cs, H2 c.1 = some (CodeO c.1 c.2)) → fs.length = ls.length →
  ∃ (F : Hp) (d0 : D) (ms : List (List D → Res D)), CapV F σ ls ms ∧ Dn F v0 d0 ∧ Wok (rC cs fs F) F H2 () ∧ Post (rC cs fs F) F H2 (fun _ => False) (liftM (m ms [d0]) ()) (PV Q)
theorem mades_facts {s : Shared} {H : Hp} : ∀ {fs : List Addr} {cs : List (Addr × Str)} {ls : List (List Nat × (List D → List D → Res D))}, Mades X k σ s H fs cs ls → fs.length = ls.length ∧ ∀ c ∈ cs, H c.1 = some (CodeO c.1 c.2)
  | [], [], [], _ => ⟨rfl, fun c h => by cases h⟩
  | f :: fs, c :: cs, l :: ls, ⟨h, t⟩ => by
    obtain ⟨h1, h2⟩ := mades_facts t
    refine ⟨by simp [h1], fun c' hc => ?_⟩
    rcases List.mem_cons.mp hc with rfl | hc
    · obtain ⟨_, _, _, _, _, _, _, _, _, _, z, _⟩ := h; exact z
    · exact h2 c' hc
  | [], [], _ :: _, h => h.elim
  | [], _ :: _, _, h => h.elim
  | _ :: _, [], _, h => h.elim
  | _ :: _, _ :: _, [], h => h.elim
theorem lams_of {s : Shared} {H F : Hp} : ∀ {fs : List Addr} {cs : List (Addr × Str)} {ls : List (List Nat × (List D → List D → Res D))} {ms : List (List D → Res D)}, Mades X k σ s H fs cs ls → CapV F σ ls ms → Lams X.prog X.w X.K X.mg X.base k s H F fs cs ms
  | [], [], [], [], _, _ => trivial
  | f :: fs, c :: cs, l :: ls, m :: ms, ⟨h, t⟩, ⟨g, u⟩ => by
    obtain ⟨params, body, scope, ps, fr, one, eq, ok, isl, no, hc, cl⟩ := h
    obtain ⟨ds, us, e1, e2, rfl⟩ := g
    refine ⟨⟨⟨mkLm X params body scope c.1, ps, fr, spL l.2, l.1.map (slotAt σ), rfl, eq.symm, one, ok, isl, no, cl, fun vs H' Q h => ?_⟩⟩, lams_of t u⟩
    obtain ⟨F', d, k', hd, p⟩ := h
    exact ⟨F, F', d, ds, us, e1, e2, k', hd, p⟩
  | [], [], _ :: _, _, h, _ => h.elim
  | [], _ :: _, _, _, h, _ => h.elim
  | _ :: _, [], _, _, h, _ => h.elim
  | _ :: _, _ :: _, [], _, h, _ => h.elim
  | [], [], [], _ :: _, _, h => h.elim
  | _ :: _, _ :: _, _ :: _, [], _, h => h.elim
variable {x : Str} {e : Expr} {es : List Expr} {te : TE} {ls : List (List Nat × (List D → List D → Res D))} {m : List (List D → Res D) → List D → Res D} {p pos : Pos}
theorem pe_callL (C : CalleeL X.prog X.w X.K X.mg X.base x k 1 ls.length m) (hr : Room (k + 1) X.A) (hg : Gl X x) (TB : TabB X.base X.mg c P) (hcode : X.env.code = .ref c) (hmT : (P, X.env.qual ++ "<lambda>") ∈ T) (hu : ∀ p ∈ T, p.1 = P → p.2 = X.env.qual ++ "<lambda>") (he : PE X e te) (hls : LmDs X k es ls)
    (hdb : (x == ("__debug__" : Str)) = false) (hs : starEach (e :: es) X.env = (false, eval e X.env) :: starEach es X.env) (hpl : (backTo pos (starEach es X.env)).any (·.1) = false) : PE X (.Call (.Name x p) (e :: es) [] pos) (tCallL T P te ls m) := by
  refine ⟨fun pins s σ H Q I h => ?_⟩
  obtain ⟨g, fd, ps, hm, hk, hb, hps, run⟩ := C.ex
  refine wpAny_Call_Name_kw (ld_glob I hg hm ?_ hdb)
  refine PySem.W.callWith_K (h₀ := X.base) I.ok.mod.kin hk ?_ hs hpl
  rw [hs]
  show wpAny _ _ (spliced ((false, eval e X.env) :: backTo pos (starEach es X.env))) _ _ s
  refine Calls.spliced_cons (thn (he.run pins s σ H _ I h) fun v s1 ⟨x0, H1, I1, r1, hT, q⟩ => ?_)
  refine thn (eval_lams TB hcode hmT hu pos hls pins s1 H1 I1 hT) fun us s2 ⟨fs, cs, H2, I2, st, T2, eus, md⟩ => ⟨I2.kIn, ?_⟩
  obtain ⟨lf, hc⟩ := mades_facts md
  obtain ⟨F, d0, ms, cap, hd, kw, pp⟩ := q H2 fs cs st T2 hc lf
  have rv : Vals ([x0] ++ fs.map V.ref) (v :: us) := by
    rw [eus]
    exact .cons r1 (vals_refs fs)
  have hl : (v :: us).length = ps.length := by rw [hps, eus, List.length_cons, List.length_map, lf]; omega
  have b := hb s2 (v :: us) I2.kIn (by rw [List.append_nil]; exact hl)
  rw [List.append_nil] at b
  refine wpAny_call (codeAny_mono (run X.A X.stack s2 H2 ⟨v :: us, []⟩ (v :: us) [x0] fs cs ms F F [d0] Q hr I2.env0 b rv lf (lams_of md cap) kw (.one hd) pp) fun r s3 hq => ?_)
  match r, hq with
  | .error e, hq => exact hq.elim
  | .ok (.ret u), hq => exact I2.after hq
  | .ok .next, hq => exact hq.elim
  | .ok .brk, hq => exact hq.elim
  | .ok .cont, hq => exact hq.elim
end
/-! ### the same of data -/
def capD (η : EnvD) : List Nat → Option (List D)
  | [] => some []
  | j :: js => match η[j]?, capD η js with
    | some (.fr d), some ds => some (d :: ds)
    | _, _ => none
def capsD (η : EnvD) : List (List Nat × (List D → List D → Res D)) → Option (List (List D → Res D))
  | [] => some []
  | l :: ls => match capD η l.1, capsD η ls with
    | some cs, some ms => some (l.2 cs :: ms)
    | _, _ => none
def eFnL {W : Type} (m : List (List D → Res D) → List D → Res D) (ls : List (List Nat × (List D → List D → Res D))) (f : FE W) : FE W := fun η w => bindM (f η w) fun d w1 => match capsD η ls with
  | some ms => liftM (noX (m ms [d])) w1
  | none => .stk
section
variable {W : Type} {R : Rsc W} {T : List (Addr × Str)} {F H F1 H1 F2 H2 : Hp} {w w1 : W} {X : Cx} {B : Bs} {η : EnvD} {σ : L2.St} {c P : Addr} {k : Nat}
theorem capD_ok (S : StOk R B η w σ F H) : ∀ {js : List Nat} {ds : List D}, capD η js = some ds → ∃ us : List V, js.map (slotAt σ) = us.map some ∧ DnL F us ds
  | [], _, h => by cases h; exact ⟨[], rfl, .nil⟩
  | j :: js, ds, h => by
    unfold capD at h
    split at h
    · rename_i d ds' e1 e2
      cases h
      obtain ⟨v, h1, h2⟩ := S.fr e1
      obtain ⟨us, h3, h4⟩ := capD_ok S e2
      exact ⟨v :: us, by rw [List.map_cons, slotAt_of h1, h3]; rfl, .cons h2 h4⟩
    · cases h
theorem capsD_ok (S : StOk R B η w σ F H) : ∀ {ls : List (List Nat × (List D → List D → Res D))} {ms : List (List D → Res D)}, capsD η ls = some ms → CapV F σ ls ms
  | [], _, h => by cases h; trivial
  | l :: ls, ms, h => by
    unfold capsD at h
    split at h
    · rename_i cs ms' e1 e2
      cases h
      obtain ⟨us, h1, h2⟩ := capD_ok S e1
      exact ⟨⟨cs, us, h1, h2, rfl⟩, capsD_ok S e2⟩
    · cases h
/-- tables were written -/
theorem tab_step (k : Wok (rT R T) F H w) (hP : P ∈ T.map Prod.fst) (st : ∀ b o, b ≠ P → H b = some o → H1 b = some o) (t : Tabs T H1) : Ext (rT R T) F H F H1 ∧ Wok (rT R T) F H1 w := by
  have nF : F P = none := k.nf (.inr hP)
  have ne : ∀ {b : Addr}, ¬ (rT R T).foot b → b ≠ P := fun n z => n (.inr (z ▸ hP))
  obtain ⟨p0, hp0, ep⟩ := List.mem_map.mp hP
  obtain ⟨ps, hps, _⟩ := k.res.2.1 p0 hp0
  rw [ep] at hps
  refine ⟨⟨Sub.refl F, fun n _ h => st _ _ (ne n) h, fun _ _ _ h => h⟩, ⟨fun a o h => ?_, k.nf, ⟨R.stable k.res.1 (fun b fb => ?_) (fun b g h => st _ _ (fun z => by rw [z, hps] at h; cases h) h), t, k.res.2.2⟩, k.low⟩⟩
  · have na : a ≠ P := fun z => by rw [z, nF] at h; cases h
    rcases k.sub a o h with h | ⟨z, od, h⟩
    · exact .inl (st _ _ na h)
    · exact .inr ⟨z, od, st _ _ na h⟩
  · obtain ⟨o, ho, _⟩ := R.there k.res.1 fb
    rw [ho]; exact st _ _ (fun z => k.res.2.2 b fb (z ▸ hP)) ho
variable {x : Str} {e : Expr} {es : List Expr} {te : TE} {fe : FE W} {ls : List (List Nat × (List D → List D → Res D))} {m : List (List D → Res D) → List D → Res D} {p pos : Pos}
theorem de_callL (C : CalleeL X.prog X.w X.K X.mg X.base x k 1 ls.length m) (hr : Room (k + 1) X.A) (hg : Gl X x) (TB : TabB X.base X.mg c P) (hcode : X.env.code = .ref c) (hmT : (P, X.env.qual ++ "<lambda>") ∈ T) (hu : ∀ p ∈ T, p.1 = P → p.2 = X.env.qual ++ "<lambda>") (he : DE X (rT R T) e te fe) (hls : LmDs X k es ls)
    (hdb : (x == ("__debug__" : Str)) = false) (hs : starEach (e :: es) X.env = (false, eval e X.env) :: starEach es X.env) (hpl : (backTo pos (starEach es X.env)).any (·.1) = false) : DE X (rT R T) (.Call (.Name x p) (e :: es) [] pos) (tCallL T P te ls m) (eFnL m ls fe) :=
  ⟨pe_callL C hr hg TB hcode hmT hu he.pe hls hdb hs hpl, fun B η w σ F H S Q q =>
    he.rf B η w σ F H S _ (q.bind fun d w1 F1 H1 e1 k1 q v hv => by
      split at q
      · rename_i ms hms
        refine ⟨k1.res.2.1, fun H2 fs cs st t2 hc lf => ?_⟩
        obtain ⟨e2, k2⟩ := tab_step k1 (List.mem_map.mpr ⟨_, hmT, rfl⟩) st t2
        have S1 := S.go e1 k1
        refine ⟨F1, d, ms, capsD_ok S1 hms, hv, k2.toC hc (Sub.refl F1), ?_⟩
        have q2 := Post.at e2 (Post.nox (fun c => noX_ne) q)
        have q3 := Post.toC (cs := cs) (fs := fs) (low := F1) (fun c => noX_ne) k2 q2
        revert q3
        generalize m ms [d] = r
        intro q3
        match r, q3 with
        | .ok d, q3 => exact q3
        | .exc c, q3 => exact q3.elim
        | .stk, q3 => exact q3.elim
      · exact q.elim)⟩
end
end Cw

set_option autoImplicit false
namespace Cw
open PySem PySem.Spec PyProof.Rows L2 LamX NdefX
/-! ### defs below which lambdas are made: the tables are told -/
def spT (T : List (Addr × Str)) (f : List D → Res D) : Sp := fun vs H Q _ => ∃ F ds, Wok (rT R0 T) F H () ∧ DnL F vs ds ∧ Post (rT R0 T) F H (fun _ => False) (liftM (f ds) ()) (PV Q)
theorem spT_len {T : List (Addr × Str)} {n N : Nat} {g : FS Unit} {vs : List V} {H : Hp} {Q : VK} {E : XK} (h : spT T (runF n N g) vs H Q E) : vs.length = n := by
  obtain ⟨F, ds, k, hd, p⟩ := h
  unfold runF at p
  split at p
  · exact p.elim
  · rename_i hb
    rw [hd.len]; exact Nat.eq_of_beq_eq_true hb
theorem body_endT {T : List (Addr × Str)} {X : Cx} {body : List Stmt} {t : TS} {g : FS Unit} {Nm : List Str} {n : Nat} {vs : List V} {H : Hp} {Q : VK} {E : XK} (hN : X.N = Nm) (d : DSs X (rT R0 T) body t g) (h : spT T (runF n Nm.length g) vs H Q E) :
    ∃ t, PSs X body t ∧ t { nx := fun _ H' => Q .non H', rt := Q } (L2.start Nm vs) H := by
  obtain ⟨F, ds, k, hd, p⟩ := h
  refine ⟨t, d.ps, ?_⟩
  unfold runF at p
  split at p
  · exact p.elim
  · rename_i hb
    have hn : ds.length = n := Nat.eq_of_beq_eq_true hb
    have st : L2.start Nm vs = vs.map some ++ List.replicate (Nm.length - n) none := by unfold L2.start; rw [hd.len, hn]
    rw [st]
    refine d.rf _ _ _ _ F H (StOk.startF k hd _ (fun _ => False)) _ ?_
    revert p
    generalize g (ds.map Slot.fr ++ List.replicate (Nm.length - n) Slot.un) () = r
    intro p
    match r, p with
    | .ok (.rt d, ()), p => exact fun v F' H' e o hv => p F' H' e o v hv
    | .ok (.nx η, ()), p => exact fun σ' F' H' S => p F' H' S.ext S.wok _ .non
    | .ok (.bk η, ()), p => exact p.elim
    | .ok (.ct η, ()), p => exact p.elim
    | .exc c, p => exact p
    | .stk, p => exact p.elim
structure CalleeT (P : Program) (w : World) (K : PySem.W.Frag) (mg : Str → Option Value) (base : Heap) (T : List (Addr × Str)) (x : Str) (k : Nat) (m : List D → Res D) : Prop where
  ex : ∃ f fd ps, FnOk P w K mg base CX0 k f fd ps (spT T m) ∧ mg x = some (.ref f) ∧ PySem.W.keepIn K (.ref f) = true ∧ Binds K fd ps []
section
variable {W : Type} {R : Rsc W} {T : List (Addr × Str)} {F H F1 H1 : Hp} {w w1 : W} {X : Cx} {x y : Str} {p pos ypos : Pos} {e : Expr} {es : List Expr} {t : TA} {m : List D → Res D} {fs : FA W} {k : Nat}
theorem Post.toT {Xc : String → Prop} {r : Res D} {Q : VK} (nx : ∀ c, r ≠ .exc c) (k : Wok (rT R T) F H w) (p : Post (rT R T) F H Xc (liftM r w) (PV Q)) : Post (rT R0 T) F H (fun _ => False) (liftM r ()) (PV Q) := by
  match r, nx, p with
  | .ok d, _, p => exact fun F' H' e o v hv => p F' H' (Ext.ofT0 e) (k.ofT0 e o) v hv
  | .exc c, nx, _ => exact (nx c rfl).elim
  | .stk, _, p => exact p.elim
theorem de_callT (C : CalleeT X.prog X.w X.K X.mg X.base T x k m) (hr : Room k X.A) (hg : Gl X x)
    (ha : DA X (rT R T) (e :: es) t fs) (hdb : (x == ("__debug__" : Str)) = false) (he : starEach (e :: es) X.env = (false, eval e X.env) :: starEach es X.env) (hpl : (backTo pos (starEach es X.env)).any (·.1) = false) :
    DE X (rT R T) (.Call (.Name x p) (e :: es) [] pos) (tCall (spT T m) [] E0 t) (eFn (fun ds => noX (m ds)) fs) := by
  obtain ⟨f, fd, ps, Fn, hm, hk, hb⟩ := C.ex
  refine ⟨pe_call Fn hr hg hm hk hb .nil pass0 ha.pa hdb he hpl, fun B η w σ F H S Q p =>
    ha.rf B η w σ F H S _ (p.bind fun ds w1 F1 H1 e k p vs hvs => ⟨F1, ds, k.toT0, by rw [List.append_nil]; exact hvs, ?_⟩)⟩
  have p0 := Post.toT (fun c => noX_ne) k p
  revert p0
  generalize m ds = r
  intro p0
  match r, p0 with
  | .ok d, p0 => exact p0
  | .exc c, p0 => exact p0.elim
  | .stk, p0 => exact p0
/-- a def of the thing beside, called where tables are told too -/
theorem de_callST {α : Type} {Rs : α → Rsc W} {m : List D → W → Res (D × W)} {j : α} (i : Nat) (C : CalleeS X.prog X.w X.K X.mg X.base x k Rs m) (hr : Room k X.A) (hg : Gl X x) (hN : X.N[i]? = some y) (hv : Vis X.env.scope y) (hd : (y == ("__debug__" : Str)) = false) (hcd : (y == ("__classdict__" : Str)) = false)
    (ha : DA X (rT (Rs j) T) es t fs) (hdb : (x == ("__debug__" : Str)) = false) (he : starEach (.Name y ypos :: es) X.env = (false, eval (.Name y ypos) X.env) :: starEach es X.env) (hpl : (backTo pos (starEach es X.env)).any (·.1) = false) :
    DE X (rT (Rs j) T) (.Call (.Name x p) (.Name y ypos :: es) [] pos) (tCall (spS Rs m) [] E0 (tCons (tVar i) t)) (eFnS i m fs) := by
  obtain ⟨f, fd, ps, Fn, hm, hk, hb⟩ := C.ex
  refine ⟨pe_call Fn hr hg hm hk hb .nil pass0 (pa_cons (pe_var hN hv hd hcd) ha.pa he) hdb he hpl, fun B η w σ F H S Q q => ?_⟩
  unfold eFnS at q
  split at q
  · rename_i hh
    refine ⟨_, S.hd hh, ha.rf B η w σ F H S _ (q.bind fun ds w1 F1 H1 e1 k1 q vs hvs => ?_)⟩
    refine ⟨j, vs, F1, ds, w1, by rw [List.append_nil]; rfl, k1.toB, hvs, ?_⟩
    revert q
    generalize m ds w1 = r
    intro q
    match r, q with
    | .ok (d, w2), q => exact fun F' H' e o => q F' H' (Ext.ofB e) (k1.ofB e o)
    | .exc c, q => exact q.elim
    | .stk, q => exact q.elim
  · exact q.elim
end
/-! ### defs that make lambdas -/
structure FunC (K : PySem.W.Frag) (x : Str) (st : Stmt) (f : Addr) (fd : FuncData) (c : Addr) : Prop where
  ex : ∃ (oc : Value) (od : Option Addr) (kV doc pm : Value) (an : Option Addr) (ct : Value) (osl : Array (Option Value)),
    fd = PySem.W.fnOf x x (defArgs st) (defBody st) (defScope st) .none kV doc pm an (.ref c) ct ∧ K.lookup f = some ⟨oc, od, .func fd, osl⟩ ∧ PySem.W.codeIn K (.ref c) x = true
  kp : PySem.W.keepIn K (.ref f) = true
theorem FunC.fn {K : PySem.W.Frag} {x : Str} {st : Stmt} {f c : Addr} {fd : FuncData} (F : FunC K x st f fd c) : Fun K x x st f fd := by
  obtain ⟨oc, od, kV, doc, pm, an, ct, osl, e, l, h⟩ := F.ex
  exact ⟨⟨oc, od, kV, doc, pm, an, _, ct, osl, e, l, h⟩, F.kp⟩
theorem FunC.ok {P : Program} {w : World} {K : PySem.W.Frag} {mg : Str → Option Value} {base : Heap} {x : Str} {st : Stmt} {f c : Addr} {fd : FuncData} {N ps : List Str} {k : Nat} {sp : Sp} (F : FunC K x st f fd c) (S : FnScope N ps (defScope st)) (len : ∀ vs H Q E, sp vs H Q E → vs.length = ps.length)
    (hbody : ∀ (A : Around) (outer : List Env) (s : Shared) (H : Hp) (vs : List V) (Q : VK) (E : XK), Room k (A.deeper (envOfC x (defScope st) s.heap.objs.size f (.ref c))) → sp vs H Q E →
      ∃ t, PSs (cxOf CX0 P w K mg base N x (defScope st) f (.ref c) A outer s H E).nox (defBody st) t ∧ t { nx := fun _ H' => Q .non H', rt := Q } (L2.start N vs) H) : FnOk P w K mg base CX0 (k + 1) f fd ps sp := by
  obtain ⟨oc, od, kV, doc, pm, an, ct, osl, rfl, lk, hcd⟩ := F.ex
  refine fn_of lk hcd S len fun A outer s H vs Q E hr hsp => ?_
  obtain ⟨t, h, q⟩ := hbody A outer s H vs Q E hr hsp
  exact ⟨t, h.nox, q⟩
/-- the name of the code of a def's lambdas -/
abbrev lamQ (x : Str) : Str := (x ++ ".<locals>.") ++ "<lambda>"
/-- a def that makes lambdas, where the top has put it: its code object c -/
def MakAt (K : PySem.W.Frag) (x : Str) (st : Stmt) (c : Addr) : Prop := ∃ f fd, PySem.W.nsIn K mainGlobals x = some (some (.ref f)) ∧ FunC K x st f fd c
theorem makAt_mk {K : PySem.W.Frag} {x : Str} {st : Stmt} {f c : Addr} {oc : Value} {od an : Option Addr} {osl : Array (Option Value)} {kV doc pm ct : Value} (a : PySem.W.nsIn K mainGlobals x = some (some (.ref f)))
    (l : K.lookup f = some ⟨oc, od, .func (PySem.W.fnOf x x (defArgs st) (defBody st) (defScope st) .none kV doc pm an (.ref c) ct), osl⟩) (h : PySem.W.codeIn K (.ref c) x = true) (k : PySem.W.keepIn K (.ref f) = true) : MakAt K x st c := ⟨f, _, a, ⟨⟨oc, od, kV, doc, pm, an, ct, osl, rfl, l, h⟩, k⟩⟩
/-- its table -/
structure TabAt (base : Heap) (mg : Str → Option Value) (T : List (Addr × Str)) (x : Str) (c P : Addr) : Prop where
  tb : TabB base mg c P
  mem : (P, lamQ x) ∈ T
  un : ∀ p ∈ T, p.1 = P → p.2 = lamQ x
/-- where a law begins to draw, tables told -/
theorem law_startT {T : List (Addr × Str)} {H : Hp} {p g a : Addr} {b : Bag} (h : BagAt p g b H) (t : Tabs T H) (n : Nat) : StOk (rT (bagR (p, g)) T) ⟨fun _ => none, H, fun _ => False⟩ (Slot.un :: Slot.hd :: List.replicate n Slot.un) b (some (.ref a) :: some (.ref p) :: List.replicate n none) (fun _ => none) H := by
  have S := law_start (a := a) h n
  refine { S with wok := ⟨S.wok.sub, fun _ => rfl, ⟨h, t, fun q hq hm => ?_⟩, S.wok.low⟩, ext := .refl, ow := fun e => ?_ }
  · obtain ⟨x, hx, e⟩ := List.mem_map.mp hm
    obtain ⟨ps, hps, _⟩ := t x hx
    rw [e] at hps
    rcases hq with rfl | rfl
    · rw [h.1] at hps; cases hps
    · rw [h.2.1] at hps; cases hps
  · obtain ⟨_, _, _, _, _, _, z, _⟩ := S.ow e
    exact (by
      rcases List.mem_cons.mp (List.mem_of_getElem? e) with e | e
      · cases e
      · rcases List.mem_cons.mp e with e | e
        · cases e
        · cases (List.mem_replicate.mp e).2)
end Cw

set_option autoImplicit false
namespace Cw
open PySem PySem.Spec PyProof.Rows L2 LamX NdefX
theorem lams1 {P : Program} {w : World} {K : PySem.W.Frag} {mg : Str → Option Value} {base : Heap} {k : Nat} {s : Shared} {H low : Hp} {fs : List Addr} {cs : List (Addr × Str)} {ms : List (List D → Res D)} (h : Lams P w K mg base k s H low fs cs ms) (hl : fs.length = 1) :
    ∃ f0 c0 l0, fs = [f0] ∧ cs = [c0] ∧ ms = [l0] ∧ Nonempty (LamAt P w K mg base k s H low f0 c0.1 c0.2 l0) := by
  match fs, cs, ms, h, hl with
  | [f0], [c0], [l0], ⟨h0, _⟩, _ => exact ⟨f0, c0, l0, rfl, rfl, rfl, h0⟩
  | [_], [], _, h, _ => exact h.elim
  | [_], _ :: _, [], h, _ => exact h.elim
  | [_], [_], _ :: _ :: _, ⟨_, h⟩, _ => exact h.elim
  | [_], _ :: _ :: _, [_], ⟨_, h⟩, _ => exact h.elim
  | [_], _ :: _ :: _, _ :: _ :: _, ⟨_, h⟩, _ => exact h.elim
theorem lams2 {P : Program} {w : World} {K : PySem.W.Frag} {mg : Str → Option Value} {base : Heap} {k : Nat} {s : Shared} {H low : Hp} {fs : List Addr} {cs : List (Addr × Str)} {ms : List (List D → Res D)} (h : Lams P w K mg base k s H low fs cs ms) (hl : fs.length = 2) :
    ∃ f0 f1 c0 c1 l0 l1, fs = [f0, f1] ∧ cs = [c0, c1] ∧ ms = [l0, l1] ∧ Nonempty (LamAt P w K mg base k s H low f0 c0.1 c0.2 l0) ∧ Nonempty (LamAt P w K mg base k s H low f1 c1.1 c1.2 l1) := by
  match fs, cs, ms, h, hl with
  | f0 :: [f1], c0 :: cs, l0 :: ms, ⟨h0, h⟩, _ =>
    obtain ⟨f1', c1, l1, e1, rfl, rfl, h1⟩ := lams1 h rfl
    cases e1
    exact ⟨_, _, _, _, _, _, rfl, rfl, rfl, h0, h1⟩
  | [_, _], [], _, h, _ => exact h.elim
  | [_, _], _ :: _, [], h, _ => exact h.elim
/-! ### tuple(range(a, b, c)), a loop over range(a, b, c) -/
def rgDC (a c : Int) (n : Nat) : List D := (List.range n).map fun i => PyData.int (a + (i : Nat) * c)
def rgVC (a c : Int) (n : Nat) : List V := (List.range n).map fun i => V.int (a + (i : Nat) * c)
/-- how many: rounded up -/
def rgN (a b c : Int) : Nat := if 0 < c then ((b - a + c - 1) / c).toNat else ((a - b - c - 1) / (-c)).toNat
def rg3Ok (a b c : Int) : Bool := decide (-1000000 ≤ a) && decide (a ≤ 1000000) && decide (-1000000 ≤ b) && decide (b ≤ 1000000) && decide (-1000 ≤ c) && decide (c ≤ 1000) && decide (c ≠ 0) && decide (Builtin.Range.rangeSize a b c = (rgN a b c : Int)) && Builtin.Range.small a b c
section
variable {W : Type} {R : Rsc W} {F H F1 H1 : Hp} {w w1 : W} {X : Cx} {tg : Expr} {a b c : Expr} {tA : TA} {fs : FA W} {p pos p2 pos3 : Pos}
theorem dnl_rgC (a c : Int) (n : Nat) : DnL F (rgVC a c n) (rgDC a c n) := by
  unfold rgVC rgDC
  generalize List.range n = l
  induction l with
  | nil => exact .nil
  | cons i r ih => exact .cons (.int _) ih
theorem rgDC_get {a c : Int} {n i : Nat} {d : D} (h : (rgDC a c n)[i]? = some d) : i < n ∧ d = .int (a + (i : Nat) * c) := by
  unfold rgDC at h
  rw [List.getElem?_map] at h
  cases z : (List.range n)[i]? with
  | none => rw [z] at h; cases h
  | some j =>
    rw [z] at h
    obtain ⟨h1, h2⟩ := List.getElem?_eq_some_iff.mp z
    simp at h1 h2
    subst h2
    exact ⟨h1, (Option.some.inj h).symm⟩
theorem itw_rngC {a c : Int} {n : Nat} : ItW R F1 (fun _ => True) (Itc a c n) (rgDC a c n) := fun F H w s g k => by
  refine ⟨fun i d e => ?_, fun i hi => by unfold rgDC at hi; exact (show n ≤ i by simpa using hi)⟩
  obtain ⟨h1, rfl⟩ := rgDC_get e
  exact ⟨h1, fun x H' hy => by obtain ⟨rfl, rfl⟩ := hy; exact ⟨F, .refl, k, .int _⟩⟩
theorem rg3_ok {a b c : Int} (h : rg3Ok a b c = true) : RgC a b c (rgN a b c) := by
  unfold rg3Ok at h
  simp only [Bool.and_eq_true, decide_eq_true_eq] at h
  obtain ⟨⟨⟨⟨⟨⟨⟨⟨h1, h2⟩, h3⟩, h4⟩, h5⟩, h6⟩, h7⟩, h8⟩, h9⟩ := h
  exact ⟨h7, by omega, h9, h8⟩
def iRg3 (fs : FA W) : FI W := fun η w => bindM (fs η w) fun ds w1 => match ds with
  | [.int i, .int j, .int c] => match rg3Ok i j c && okLen (rgN i j c) with
    | true => .ok (rgDC i c (rgN i j c), w1)
    | false => .stk
  | _ => .stk
theorem SqAll.three {vs : List V} {d e g : D} (h : SqAll R F H vs [d, e, g]) : ∃ v u z, vs = [v, u, z] ∧ Sq R F H v d ∧ Sq R F H u e ∧ Sq R F H z g := by
  cases h with
  | cons h t =>
    obtain ⟨u, z, rfl, h1, h2⟩ := t.two
    exact ⟨_, _, _, rfl, h, h1, h2⟩
theorem di_range3 (hg : Gl X "range") (hm : X.mg "range" = none) (ha : DB X R [a, b, c] tA fs) (hs : starEach [a, b, c] X.env = (false, eval a X.env) :: starEach [b, c] X.env) (hpl : (backTo pos (starEach [b, c] X.env)).any (·.1) = false) : DI X R tg (.Call (.Name "range" p) [a, b, c] [] pos) (iRng3 tA) (iRg3 fs) := ⟨pi_range3 hg hm ha.pa hs hpl, fun B η w σ F H S Rr p =>
  ha.rf B η w σ F H S _ (p.bind fun ds w1 F1 H1 e k p vs hvs => by
    split at p
    · split at p
      · rename_i i j c _ h
        rw [Bool.and_eq_true] at h
        obtain ⟨v, u, z, rfl, hv, hu, hz⟩ := hvs.three
        exact ⟨i, j, c, rgN i j c, by rw [hv.int, hu.int, hz.int], rg3_ok h.1, p.here k (by unfold rgDC; rw [List.length_map, List.length_range]; exact okLen_le h.2) _ itw_rngC⟩
      · exact p.elim
    · exact p.elim)⟩
theorem vals_rgC {a c : Int} {n : Nat} {acc : Array Value} (h : ItemsOf (fun i v => ∃ t, v = .int (a + i * c) t) acc n) : Vals (rgVC a c n) acc.toList := by
  have e : acc.toList.length = n := by rw [Array.length_toList]; exact h.1
  unfold rgVC
  rw [← e]
  refine vals_of_get acc.toList _ fun j u hj => ?_
  obtain ⟨t, rfl⟩ := h.2 j u (by rw [← hj, Array.getElem?_toList])
  exact ⟨t, rfl⟩
def tTupRg3 (t : TA) : TE := fun σ H Q => t σ H fun vs H1 => ∃ (i j c : Int) (n : Nat), vs = [.int i, .int j, .int c] ∧ RgC i j c n ∧ n ≤ 2 ^ 24 ∧ ∀ q, H1 q = none → Q (.ref q) (upd H1 q (.tup (rgVC i c n)))
theorem pe_tupRg3 (hc : X.calm = true) (hg : Gl X "tuple") (hm : X.mg "tuple" = none) (hg2 : Gl X "range") (hm2 : X.mg "range" = none) (ha : PA X [a, b, c] tA) (na : starEach [.Call (.Name "range" p2) [a, b, c] [] pos] X.env = (false, eval (.Call (.Name "range" p2) [a, b, c] [] pos) X.env) :: starEach [] X.env)
    (hs : starEach [a, b, c] X.env = (false, eval a X.env) :: starEach [b, c] X.env) (hpl : (backTo pos (starEach [b, c] X.env)).any (·.1) = false) : PE X (.Call (.Name "tuple" p) [.Call (.Name "range" p2) [a, b, c] [] pos] [] pos3) (tTupRg3 tA) := by
  refine ⟨fun pins s σ H Q I h => ?_⟩
  refine Call_ (ld_blt I hg hm boot_tuple (PyProof.Rows.callWith_type1 (args_cons ?_ na) na))
  refine Call_ (ld_blt I hg2 hm2 boot_range (PyProof.Rows.callWith_type1 (thn (ha.run pos pins s σ H _ I h) fun us s1 ⟨vs, H1, I1, r1, q1⟩ => ?_) hs hpl))
  obtain ⟨i, j, k, n, e, ⟨c0, c1, c2, c3⟩, hn, q⟩ := q1
  subst e
  cases r1 with
  | cons r rr =>
    cases rr with
    | cons r' rr =>
      cases rr with
      | cons r'' rr =>
        cases rr
        obtain ⟨t, rfl⟩ := r
        obtain ⟨t', rfl⟩ := r'
        obtain ⟨t'', rfl⟩ := r''
        refine call_range_3 c0 ?_ (.inl (PyProof.noPylong_small c1))
        refine args_nil ?_
        have I2 : L2.Inv X pins σ H1 { s1 with heap := s1.heap.push { cls := .type "range", data := .fields #[.int i t, .int j t', .int k t''] } } := I1.kept (t' := s1.toks) fun b o e => Heap.get?_push_of_some _ e
        refine call_tuple_range (n := n) (I2.ok.hd hc) (IsRange.new _ _ _ _ _ _ _) c2 c3 hn fun h' tk acc hk hi => ?_
        have I3 : L2.Inv X pins σ H1 { s1 with heap := h', toks := tk } := I2.kept hk
        refine ⟨.ref h'.objs.size, upd H1 h'.objs.size (.tup (rgVC i k n)), I3.laid (t' := tk) (fun c o e => Heap.get?_push_of_some _ e) (Nat.le_refl _) (show ObjOk X.prog X.w _ _ _ (.tup (rgVC i k n)) from ⟨?_, acc.toList, vals_rgC hi, ?_⟩), rfl, q _ (I3.hok.fresh (Nat.le_refl _))⟩
        · unfold rgVC; rw [List.length_map, List.length_range, sizeLine_eq]; omega
        · rw [Array.toArray_toList]; exact IsTup.new _ _
def eTupRg3 (fs : FA W) : FE W := fun η w => bindM (fs η w) fun ds w1 => match ds with
  | [.int i, .int j, .int c] => match rg3Ok i j c && okLen (rgN i j c) with
    | true => .ok (.tuple (rgDC i c (rgN i j c)), w1)
    | false => .stk
  | _ => .stk
theorem de_tupRg3 (hc : X.calm = true) (hg : Gl X "tuple") (hm : X.mg "tuple" = none) (hg2 : Gl X "range") (hm2 : X.mg "range" = none) (ha : DB X R [a, b, c] tA fs) (na : starEach [.Call (.Name "range" p2) [a, b, c] [] pos] X.env = (false, eval (.Call (.Name "range" p2) [a, b, c] [] pos) X.env) :: starEach [] X.env)
    (hs : starEach [a, b, c] X.env = (false, eval a X.env) :: starEach [b, c] X.env) (hpl : (backTo pos (starEach [b, c] X.env)).any (·.1) = false) : DE X R (.Call (.Name "tuple" p) [.Call (.Name "range" p2) [a, b, c] [] pos] [] pos3) (tTupRg3 tA) (eTupRg3 fs) := ⟨pe_tupRg3 hc hg hm hg2 hm2 ha.pa na hs hpl, fun B η w σ F H S Q p =>
  ha.rf B η w σ F H S _ (p.bind fun ds w1 F1 H1 e k p vs hvs => by
    split at p
    · split at p
      · rename_i i j c _ h
        rw [Bool.and_eq_true] at h
        obtain ⟨v, u, z, rfl, hv, hu, hz⟩ := hvs.three
        have := okLen_le h.2
        exact ⟨i, j, c, rgN i j c, by rw [hv.int, hu.int, hz.int], rg3_ok h.1, by omega, Post.tup k (dnl_rgC _ _ _) p⟩
      · exact p.elim
    · exact p.elim)⟩
end
end Cw
namespace Cw
open PySem PySem.Spec PyProof.Rows L2
/-! ### targets that tell no error -/
section
variable {W : Type}
theorem nxe_v {i : Nat} : ∀ (η : EnvD) (w : W) c, eV i η w ≠ .exc c := fun η w c => by unfold eV; split <;> simp
theorem nxe_vq {i : Nat} : ∀ (η : EnvD) (w : W) c, eVq i η w ≠ .exc c := fun η w c => by unfold eVq; split <;> simp
theorem nxe_c {d : D} : ∀ (η : EnvD) (w : W) c, eC d η w ≠ .exc c := fun η w c => by unfold eC; simp
theorem nxe_e2 {f : D → D → Res D} {fa fb : FE W} (nx : NoX2 f) (ha : ∀ η w c, fa η w ≠ .exc c) (hb : ∀ η w c, fb η w ≠ .exc c) : ∀ (η : EnvD) (w : W) c, e2 f fa fb η w ≠ .exc c := fun η w c h => by
  unfold e2 at h
  cases ea : fa η w with
  | exc c' => exact ha η w c' ea
  | stk => rw [ea] at h; cases h
  | ok a =>
    rw [ea] at h
    simp only [bindM] at h
    cases eb : fb η a.2 with
    | exc c' => exact hb η a.2 c' eb
    | stk => rw [eb] at h; cases h
    | ok b =>
      rw [eb] at h
      simp only at h
      cases z : f a.1 b.1 with
      | ok d => rw [z] at h; cases h
      | exc c' => exact nx a.1 b.1 c' z
      | stk => rw [z] at h; cases h
theorem nxg_n {i : Nat} : ∀ (d : D) (η : EnvD) (w : W) c, tgN i d η w ≠ .exc c := fun d η w c => by unfold tgN; simp
theorem nxg_sub {i : Nat} {fk : FE W} (h : ∀ η w c, fk η w ≠ .exc c) : ∀ (d : D) (η : EnvD) (w : W) c, tgSub i fk d η w ≠ .exc c := fun d η w c q => by
  unfold tgSub at q
  split at q
  · cases ea : fk η w with
    | exc c' => exact h η w c' ea
    | stk => rw [ea] at q; cases q
    | ok a =>
      rw [ea] at q
      simp only [bindM] at q
      split at q
      · split at q <;> cases q
      · cases q
  · cases q
theorem nxg_nil : ∀ (ds : List D) (η : EnvD) (w : W) c, tgNil ds η w ≠ .exc c := fun ds η w c => by unfold tgNil; split <;> simp
theorem nxg_cons {f : TgF W} {g : TgFs W} (h1 : ∀ d η w c, f d η w ≠ .exc c) (h2 : ∀ ds η w c, g ds η w ≠ .exc c) : ∀ (ds : List D) (η : EnvD) (w : W) c, tgCons f g ds η w ≠ .exc c := fun ds η w c q => by
  unfold tgCons at q
  split at q
  · rename_i d r
    cases ea : f d η w with
    | exc c' => exact h1 _ η w c' ea
    | stk => rw [ea] at q; cases q
    | ok a =>
      rw [ea] at q
      exact h2 r a.1 a.2 c q
  · cases q
end
end Cw

set_option autoImplicit false
namespace Cw
open PySem PySem.Spec PyProof.Rows L2 LamX NdefX
/-! ### a lambda whose parameter is captured by a comprehension within -/
section
variable {M : Model} {A : Around} {E : Value → Shared → Prop} {s : Shared}
theorem newEnv_cc {scope : Scope} {globals : Addr} {cl : List (Str × Addr)} {x : Str} {v : Value} {qual : Str} {func : Option Addr} {code : Value} {builtins : Addr} {Q : Env → Shared → Prop}
    (hk : scope.kind = .function) (hx : scope.names.lookup x = some .cell) (hc : ∀ n acc, cellsFrom n scope.names acc = (x, n) :: acc) (hp : ∀ h : Heap, pushCells h scope.names = h.push { cls := .type "cell", data := .cell none })
    (hQ : ∀ h' : Heap, (∀ b o, s.heap.get? b = some o → h'.get? b = some o) → h'.Ns s.heap.objs.size (fun _ => none) → h'.IsCell (s.heap.objs.size + 1) (some v) → Q (newEnv scope s.heap.objs.size globals ((x, s.heap.objs.size + 1) :: cl) qual func code none builtins) { s with heap := h' }) :
    wpAny M A (newFunctionEnv scope globals cl [(x, v)] qual func code none builtins) Q E s := by
  simp only [newFunctionEnv, Option.isSome_none, Bool.false_eq_true, if_false]
  refine wpAny_bind (wpAny_alloc ?_)
  refine wpAny_bind (wpAny_layCells _ (fun name kind cells => by cases hkc : kind == NameKind.cell <;> simp [hkc]) _ _ _ _ ?_)
  rw [hc, hp]
  rw [show ({ s with heap := s.heap.push { cls := .type "frame", data := .dict #[] } } : Shared).heap.objs.size = s.heap.objs.size + 1 from Heap.size_push ..]
  generalize hh1 : ({ s with heap := s.heap.push { cls := .type "frame", data := .dict #[] } } : Shared).heap = h1
  have e1 : h1.objs.size = s.heap.objs.size + 1 := by rw [← hh1]; exact Heap.size_push ..
  have isC : (h1.push { cls := .type "cell", data := .cell none }).IsCell (s.heap.objs.size + 1) none := by
    rw [← e1]
    exact ⟨_, Heap.get?_push_size _ rfl, rfl⟩
  have ns0 : (h1.push { cls := .type "cell", data := .cell none }).Ns s.heap.objs.size (fun _ => none) := by
    rw [← hh1]
    exact (Heap.Ns.new s.heap (.type "frame")).keeps fun b o e => Heap.get?_push_of_some _ e
  have kp : ∀ b o, s.heap.get? b = some o → (h1.push { cls := .type "cell", data := .cell none }).get? b = some o := fun b o e => by
    rw [← hh1]
    exact Heap.get?_push_of_some _ (Heap.get?_push_of_some _ e)
  refine wpAny_bind ?_
  rw [List.forIn_cons]
  refine wpAny_bind (wpAny_bind (wpAny_storeName_cell (c := s.heap.objs.size + 1) hk hx ?_ isC fun h' hc' hs' => wpAny_pure ?_))
  · show ((x, s.heap.objs.size + 1) :: cl).lookup x = _
    simp
  dsimp only
  rw [List.forIn_nil]
  refine wpAny_pure (wpAny_pure ?_)
  exact hQ h' (fun b o e => hs'.extBut b o (Nat.ne_of_lt (Nat.lt_succ_of_lt (Heap.lt_size e))) (kp b o e)) (ns0.sameBut hs' (Nat.ne_of_lt (Nat.lt_succ_self _))) hc'
end
abbrev envFC (F : NF) (x : Str) (f L : Addr) : Env := PySem.W.envX F.qual F.scope L f (.ref F.c) ((x, L + 1) :: F.cl)
def ncxC (CX : CXT) (P : Program) (w : World) (K : PySem.W.Frag) (mg : Str → Option Value) (base : Heap) (N : List Str) (F : NF) (x : Str) (f : Addr) (A : Around) (outer : List Env) (s : Shared) (H : Hp) (E : XK) : Cx where
  prog := P
  w := w
  K := K
  mg := mg
  base := base
  A := A.deeper (envFC F x f s.heap.objs.size)
  N := N
  s_0 := s
  H_0 := H
  env := envFC F x f s.heap.objs.size
  outer := outer
  stack := envFC F x f s.heap.objs.size :: outer
  ex := []
  calm := true
  fn := fun _ => false
  pn := []
  xe := fun e s' => wpAny (model P w) (A.deeper (envFC F x f s.heap.objs.size)) (leaving (envFC F x f s.heap.objs.size) e) (fun _ s'' => CX outer H s E e s'') (fun e' s'' => CX outer H s E e' s'') s'
structure NScopeC (N : List Str) (x : Str) (fr : List Str) (sc : Scope) : Prop where
  kind : sc.kind = .function
  co : sc.isCoroutine = false
  gen : sc.isGenerator = false
  nd : N.Nodup
  pre : N.take (1 + fr.length) = x :: fr
  par : sc.names.lookup x = some .cell
  cell1 : ∀ y ∈ sc.names, y.2 = .cell → y.1 = x
  free : ∀ y ∈ sc.names, y.2 = .free → y.1 ∈ fr
  frk : ∀ y ∈ fr, sc.names.lookup y = some .free
def nscCB (N : List Str) (x : Str) (fr : List Str) (sc : Scope) : Bool :=
  decide (sc.kind = .function) && !sc.isCoroutine && !sc.isGenerator && decide N.Nodup && decide (N.take (1 + fr.length) = x :: fr) && decide (sc.names.lookup x = some .cell) && sc.names.all (fun y => !decide (y.2 = .cell) || decide (y.1 = x)) && sc.names.all (fun y => !decide (y.2 = .free) || decide (y.1 ∈ fr)) && fr.all (fun y => decide (sc.names.lookup y = some .free))
theorem nscopeC_by {N : List Str} {x : Str} {fr : List Str} {sc : Scope} (h : nscCB N x fr sc = true) : NScopeC N x fr sc := by
  unfold nscCB at h
  simp only [Bool.and_eq_true, Bool.not_eq_true', decide_eq_true_eq, List.all_eq_true, Bool.or_eq_true, decide_eq_false_iff_not] at h
  obtain ⟨⟨⟨⟨⟨⟨⟨⟨h1, h2⟩, h3⟩, h4⟩, h5⟩, h6⟩, h7⟩, h8⟩, h9⟩ := h
  exact ⟨h1, h2, h3, h4, h5, h6, fun y hy e => (h7 y hy).elim (fun z => absurd e z) id, fun y hy e => (h8 y hy).elim (fun z => absurd e z) id, h9⟩
section
variable {CX : CXT} {P : Program} {w : World} {K : PySem.W.Frag} {mg : Str → Option Value} {base : Heap} {N fr : List Str} {x : Str} {F : NF} {f : Addr} {A : Around} {outer : List Env} {s : Shared} {H : Hp} {E : XK} {u : Value} {v : V} {ws : List (Option V)}
theorem inv_startC {h₁ : Heap} (S : NScopeC N x fr F.scope) (hd : A.handled = none) (e0 : Env0 P w K mg base A outer s H) (r : L2.RelV v u) (C : CellsAt F.cl fr ws s.heap H) (hns : h₁.Ns s.heap.objs.size fun _ => none)
    (kp : ∀ b o, s.heap.get? b = some o → h₁.get? b = some o) (hc : h₁.IsCell (s.heap.objs.size + 1) (some u)) : L2.Inv (ncxC CX P w K mg base N F x f A outer s H E) [] (NdefX.startF N [v] ws) H { s with heap := h₁ } := by
  have hpl : 1 + fr.length ≤ N.length := by
    have q := congrArg List.length S.pre
    rw [List.length_take, List.length_cons] at q
    omega
  have noA : ∀ b : Addr, b ∉ (ncxC CX P w K mg base N F x f A outer s H E).ex := fun b z => absurd (show b ∈ ([] : List Addr) from z) (by simp)
  have cellK : ∀ {c : Addr} {v : Option Value}, s.heap.IsCell c v → h₁.IsCell c v := fun {c v} ⟨o, ho, hd⟩ => ⟨o, kp _ _ ho, hd⟩
  have old : ∀ {y : Str} {c : Addr}, F.cl.lookup y = some c → c < s.heap.objs.size := fun {y c} e => by
    obtain ⟨_, v, o, ho, _⟩ := C.all y c e
    exact Heap.lt_size ho
  have look : ∀ {y : Str} {c : Addr}, ((x, s.heap.objs.size + 1) :: F.cl).lookup y = some c → (y = x ∧ c = s.heap.objs.size + 1) ∨ (y ≠ x ∧ F.cl.lookup y = some c) := fun {y c} e => by
    rw [List.lookup_cons] at e
    cases hb : y == x with
    | true => rw [hb] at e; cases e; exact .inl ⟨beq_iff_eq.mp hb, rfl⟩
    | false => rw [hb] at e; exact .inr ⟨fun z => by rw [z] at hb; simp at hb, e⟩
  have lookR : ∀ {y : Str} {c : Addr}, y ≠ x → F.cl.lookup y = some c → ((x, s.heap.objs.size + 1) :: F.cl).lookup y = some c := fun {y c} n e => by
    rw [List.lookup_cons, beq_eq_false_iff_ne.mpr n]
    exact e
  have nx : ∀ {y : Str}, y ∈ fr → y ≠ x := fun {y} h z => by
    have := S.frk y h
    rw [z, S.par] at this
    cases this
  refine ⟨⟨e0.mod, S.kind, rfl, rfl, Nat.le_refl _, fun y z c h1 h2 => ?_, fun y hy => ?_, fun y c z _ => ?_, fun _ => hd, Around.frames_deeper e0.frames, .inr ⟨rfl, rfl⟩, fun b z => absurd z (noA b), e0.bs, e0.bsz, fun b _ _ => noA b,
      fun b z => absurd z (noA b), e0.funs, e0.frf⟩,
    rfl, e0.bare, Un.kept kp, ⟨_, hns, fun i y v' e1 e2 e3 => ?_⟩, fun y c e => ?_, e0.hok.fresh (Nat.le_refl _), fun y c e => ?_, fun q hq => absurd (show q ∈ ([] : List (Addr × Obj)) ++ [] from hq) (by simp), e0.hok.kept kp, ?_⟩
  · rcases look h1 with ⟨rfl, rfl⟩ | ⟨n1, h1'⟩
    · rcases look h2 with ⟨rfl, _⟩ | ⟨n2, h2'⟩
      · rfl
      · exact absurd (old h2') (Nat.not_lt.mpr (Nat.le_succ _))
    · rcases look h2 with ⟨rfl, rfl⟩ | ⟨n2, h2'⟩
      · exact absurd (old h1') (Nat.not_lt.mpr (Nat.le_succ _))
      · exact C.inj y z c h1' h2'
  · have hy : F.scope.names.lookup y = some .cell ∨ F.scope.names.lookup y = some .free := hy
    rcases hy with hy | hy
    · have e := S.cell1 _ (PySem.mem_of_lookup hy) rfl
      refine ⟨s.heap.objs.size + 1, ?_⟩
      show ((x, s.heap.objs.size + 1) :: F.cl).lookup y = _
      rw [show y = x from e]; simp
    · have hm := S.free _ (PySem.mem_of_lookup hy) rfl
      obtain ⟨i, hi⟩ := List.mem_iff_getElem?.mp hm
      obtain ⟨c, hc', _⟩ := C.has i y hi
      exact ⟨c, lookR (nx hm) hc'⟩
  · have z : false = true := z
    cases z
  · have e1 : N[i]? = some y := e1
    have clen := C.len
    unfold NdefX.startF at e2
    have hq0 : i < 1 + fr.length → (x :: fr)[i]? = some y := fun hi => by
      rw [← S.pre, List.getElem?_take_of_lt hi]; exact e1
    cases i with
    | zero =>
      have ey : x = y := by simpa using hq0 (by omega)
      subst ey
      have ev : v' = v := by simpa using e2.symm
      subst ev
      refine ⟨u, r, .inr ⟨.inl S.par, s.heap.objs.size + 1, ?_, hc⟩⟩
      show ((x, s.heap.objs.size + 1) :: F.cl).lookup x = _
      simp
    | succ i =>
      have e2 : (ws ++ List.replicate (N.length - 1 - ws.length) none)[i]? = some (some v') := by simpa using e2
      by_cases h2 : i < fr.length
      · have hy : fr[i]? = some y := by simpa using hq0 (by omega)
        rw [List.getElem?_append_left (by omega)] at e2
        obtain ⟨c, hc', hv⟩ := C.has i y hy
        obtain ⟨u', ru, hu⟩ := hv v' e2
        have hm := List.mem_of_getElem? hy
        exact ⟨u', ru, .inr ⟨.inr (S.frk y hm), c, lookR (nx hm) hc', cellK hu⟩⟩
      · rw [List.getElem?_append_right (by omega), List.getElem?_replicate] at e2
        split at e2 <;> cases e2
  · rcases look e with ⟨rfl, rfl⟩ | ⟨n1, e'⟩
    · exact ⟨_, hc⟩
    · obtain ⟨v, z⟩ := (C.all y c e').2
      exact ⟨v, cellK z⟩
  · rcases look e with ⟨rfl, rfl⟩ | ⟨n1, e'⟩
    · exact e0.hok.fresh (Nat.le_succ _)
    · exact (C.all y c e').1
  · have clen := C.len
    unfold NdefX.startF
    show _ = N.length
    rw [List.length_append, List.length_append, List.length_map, List.length_replicate]
    simp only [List.length_cons, List.length_nil]
    omega
end
section
variable {P : Program} {w : World} {K : PySem.W.Frag} {mg : Str → Option Value} {base : Heap} {N fr : List Str} {x : Str} {F : Lm} {f : Addr} {k : Nat} {ge : FE Unit}
theorem lokLC (S : NScopeC N x fr F.nf.scope) (hcf : ∀ n acc, cellsFrom n F.nf.scope.names acc = (x, n) :: acc) (hpc : ∀ h : Heap, pushCells h F.nf.scope.names = h.push { cls := .type "cell", data := .cell none })
    (hb : ∀ (pm ctv : Value) (us : List Value), us.length = [x].length → bindArgs (PySem.W.kla_fn F.nf.name F.nf.qual F.nf.params F.e F.nf.scope F.nf.cl pm (.ref F.nf.c) ctv) ⟨us, []⟩ = pure ([x].zip us))
    (hbody : ∀ (A : Around) (outer : List Env) (s : Shared) (H : Hp) (E : XK) (low : Hp), Room k (A.deeper (envFC F.nf x f s.heap.objs.size)) → ∃ t, DE (ncxC CX0 P w K mg base N F.nf x f A outer s H E).nox (rC [] [] low) F.e t ge) :
    LOk P w K mg base (k + 1) f F [x] fr (spL (runE fr.length N.length ge)) := by
  refine ⟨fun A outer s H us vs ws Q E hr e0 hf hc C hl r hsp => ?_⟩
  have lim : s.heap.NoLimit := e0.mod.nolimit.keeps fun b o e => (e0.bs b o e).1
  obtain ⟨sl, pm, ctv, ho⟩ := hf
  obtain ⟨v, rfl⟩ : ∃ v, vs = [v] := by
    match vs, hl with
    | [v], _ => exact ⟨v, rfl⟩
  obtain ⟨u, rfl, rx⟩ := vals1 r
  refine PySem.W.kla_callFunE hr.depth ho rfl S.co S.gen rfl (codeO_at e0.hok hc) ?_
  rw [hb pm ctv [u] rfl]
  refine wpAny_pure (newEnv_cc (x := x) (v := u) S.kind S.par hcf hpc fun h₁ kp hns hcell => ⟨lim.keeps kp, ?_⟩)
  obtain ⟨low, Fz, d, cs, us, rfl, hus, kw, hd, p⟩ := hsp
  obtain ⟨t, ht⟩ := hbody A outer s H E low (hr.deeper _)
  have J : L2.Inv (ncxC CX0 P w K mg base N F.nf x f A outer s H E) [] (NdefX.startF N [v] (us.map some)) H { s with heap := h₁ } := inv_startC S hr.hd e0 rx C hns kp hcell
  have hq : t (NdefX.startF N [v] (us.map some)) H Q := by
    unfold runE at p
    dsimp only at p
    split at p
    · rename_i hbq
      have hn := Nat.eq_of_beq_eq_true hbq
      have lus := hus.len
      have all : DnL Fz ([v] ++ us) (d :: cs) := hd.append (hus.mono kw.low)
      have st : NdefX.startF N [v] (us.map some) = ([v] ++ us).map some ++ List.replicate (N.length - 1 - fr.length) none := by
        unfold NdefX.startF
        rw [List.map_append, List.append_assoc, List.length_map, lus, hn]; rfl
      rw [st]
      refine ht.rf ⟨Fz, H, fun _ => False⟩ _ () _ Fz H (StOk.startF kw all _ _) Q ?_
      revert p
      generalize ge ((d :: cs).map Slot.fr ++ List.replicate (N.length - 1 - fr.length) Slot.un) () = r
      intro p
      match r, p with
      | .ok (d, ()), p => exact p
      | .exc c, p => exact p.elim
      | .stk, p => exact p.elim
    · exact p.elim
  show codeAny _ _ (.expr F.e (envFC F.nf x f s.heap.objs.size)) _ _
  refine PySem.W.kla_codeExpr (wpAny_mono (ht.pe.nox.run [] _ _ H Q J hq) (fun v s' z => ?_) fun e s' z => z)
  obtain ⟨v', H', I', rv, q⟩ := z
  exact ⟨v', H', I'.os, I'.bare, I'.base, I'.hok, rv, q⟩
end
end Cw
namespace Cw
open PySem PySem.Spec PyProof.Rows L2 LamX
/-- what a law is worth where tables are told -/
def spLawT (T : List (Addr × Str)) (K : PySem.W.Frag) : Sp := fun vs H Q _ => ∃ (a : Addr) (ns : List Int), vs = [.ref a] ∧ SqL K H a (ns.map V.int) ∧ ns.length ≤ 63 ∧ Tabs T H ∧ ∀ H', Q (.bl true) H'
end Cw

set_option autoImplicit false
namespace Cw
open PySem PySem.Spec PyProof.Rows L2

/-! ### tuples of which all is known: x.index(y) -/
section
variable {X : Cx} {K : PySem.W.Frag}
def rTupX (K : PySem.W.Frag) : List V → Hp → VK → Prop := fun xs H Q => ∃ p ys, xs = [V.ref p] ∧ SqL K H p ys ∧ ∀ l od, H l = none → od.dict = none → Q (.ref l) (upd H l (.frz od (.tup ys)))
theorem call_tupleX : CallR X (.type "tuple") (rTupX X.K) := by
  intro pins s σ H xs us Q I r h
  obtain ⟨p, ys, rfl, hq, q⟩ := h
  obtain ⟨u, rfl, rx⟩ := vals1 r
  cases rx
  obtain ⟨its, r', pl, hz⟩ := I.list hq
  have hlen := r'.length
  refine call_tuple_list pl.isList (fun h' kp => ?_) (by simp only [List.size_toArray] <;> omega)
  have I1 : Inv X pins σ H { s with heap := h' } := I.kept (t' := s.toks) kp
  have I2 : Inv X pins σ (upd H h'.objs.size (.frz { cls := .type "tuple", data := .seq its.toArray } (.tup ys))) { s with heap := h'.push { cls := .type "tuple", data := .seq its.toArray } } :=
    I1.laid (t' := s.toks) (fun b o e => Heap.get?_push_of_some _ e) (Nat.le_refl _) (show ObjOk X.prog X.w _ _ _ (.frz _ (.tup ys)) from ⟨Heap.get?_push_size _ rfl, hz, its, r', IsTup.new _ _⟩)
  exact ⟨.ref h'.objs.size, _, I2, rfl, q _ _ (I1.hok.fresh (Nat.le_refl _)) rfl⟩
def rIndexTD (K : PySem.W.Frag) : V → List V → Hp → VK → Prop := fun x xs H Q => ∃ (a : Addr) (y : V) (d : PyData) (ds : List PyData) (j : Nat) (z : PyData), x = V.ref a ∧ xs = [y] ∧ Dp K H (V.ref a) (.tuple ds) ∧ Dp K H y d ∧
  SeqAt.shaped (.list ds) = true ∧ SeqAt.shaped d = true ∧ ds[j]? = some z ∧ PyData.eqv z d = true ∧ (∀ (m : Nat) (z' : PyData), m < j → ds[m]? = some z' → PyData.eqv z' d = false) ∧ Q (.int (j : Nat)) H
theorem mt_indexTD (hu : X.A.units + 65 < cLine) : MtR X "tuple.index" (rIndexTD X.K) := by
  intro pins s σ H x xs v us Q I rx rxs h
  obtain ⟨a, y, d, ds, j, z, rfl, rfl, hl, hy, sl, sd, hz, hzj, hno, q⟩ := h
  cases rx
  cases rxs with
  | cons ry rt =>
    rename_i uy ut
    cases rt
    obtain ⟨bs, r1⟩ := Dp.reads I d y uy hy ry
    have hxs : PyData.canLayAll0 ds = true := SeqAt.canLay_of_shaped sl
    have hroom : X.A.units + 1 + min (PyData.depthAll ds) d.depth < cLine := room_in_shaped sd hu
    cases hl with
    | tup hs ha =>
      obtain ⟨its, rv, ⟨⟨cls, dd, data, sls⟩, ho, hc, n, hdt⟩, hlen⟩ := I.tuple hs
      simp only at hc hdt
      subst hc hdt
      obtain ⟨as, h4⟩ := Dp.readsAll I ds _ its ha rv
      have hn : its.length = ds.length := SeqAt.ReadsAll.length ds its as h4
      have hmap : its.map (SeqAt.readOf s.heap) = ds := SeqAt.readsAll_map ds its as hxs h4
      have hvl := rv.length
      have hsl := sizeLine_eq
      obtain ⟨hjd, _⟩ := List.getElem?_eq_some_iff.mp hz
      have hjl : j < its.length := by omega
      have hj : j < its.toArray.size := by simpa using hjl
      have at_ : ∀ (m : Nat) (hm : m < its.toArray.size) (z' : PyData), ds[m]? = some z' → SeqAt.readOf s.heap its.toArray[m] = z' := by
        intro m hm z' hz'
        have hml : m < its.length := by simpa using hm
        rw [← hmap, List.getElem?_map, List.getElem?_eq_getElem hml] at hz'
        have e1 : SeqAt.readOf s.heap its[m] = z' := Option.some.inj (show some (SeqAt.readOf s.heap its[m]) = some z' from hz')
        simpa using e1
      refine call_meets PySem.F.slot_tuple_index ⟨_, ho, rfl⟩ PySem.F.entry_tuple_index (PySem.F.args_tuple_index_2 _ _)
        (_root_.TI.tuple_indexAt a its.toArray n dd sls uy (fun u => PyData.eqv (SeqAt.readOf s.heap u) d) j hj ?_ ?_) ⟨ho, SeqAt.items_eqAt (vs := its.toArray) (show ReadsAll s.heap its.toArray.toList ds as from h4) r1 hxs (SeqAt.canLay_of_shaped sd) hroom, ?_⟩
      · show PyData.eqv (SeqAt.readOf s.heap its.toArray[j]) d = true
        rw [at_ j hj z hz]
        exact hzj
      · intro m hm hmj
        have hmd : m < ds.length := by omega
        have hz' : ds[m]? = some ds[m] := List.getElem?_eq_getElem hmd
        show PyData.eqv (SeqAt.readOf s.heap its.toArray[m]) d = false
        rw [at_ m hm _ hz']
        exact hno m _ hmj hz'
      · exact ⟨.int (j : Nat), H, I.tok _, ⟨_, rfl⟩, q⟩
def tyX (x : V) (H : Hp) : Prop := ∃ p od ys, x = V.ref p ∧ H p = some (.frz od (.tup ys)) ∧ od.dict = none
def tBMX (r : V → List V → Hp → VK → Prop) (to : TE) (t : TA) : TE := fun σ H Q => to σ H fun x H1 => tyX x H1 ∧ t σ H1 fun xs H2 => r x xs H2 Q
theorem pe_bmX {o e : Expr} {es : List Expr} {to : TE} {t : TA} {name : Str} {apos cpos : Pos} {id : String} {r : V → List V → Hp → VK → Prop} (pa : PlainAttrs "tuple") (slot : PySem.Slot "tuple" name id) (hty : typeOf (.builtin id) = pure (.type "method_descriptor")) (hm : MtR X id r) (ho : PE X o to) (ha : PA X (e :: es) t)
    (hbase : attributeBase o name X.env (eval o X.env) = eval o X.env)
    (hfew : ((backTo cpos (starEach (e :: es) X.env)).all (fun x => !x.1) && (backToKw cpos (keywordEach [] X.env)).all (fun x => x.1.isSome)
      && decide ((e :: es).length + ([] : List Keyword).length + (if ([] : List Keyword).isEmpty then 0 else 1) < 30)) = true)
    (hline : (apos.endLine == cpos.line) = true) (hs : starEach (e :: es) X.env = (false, eval e X.env) :: starEach es X.env) (hplain : (backTo cpos (starEach es X.env)).any (·.1) = false) :
    PE X (.Call (.Attribute o name apos) (e :: es) [] cpos) (tBMX r to t) := by
  refine ⟨fun pins s σ H Q I h => ?_⟩
  refine wpAny_Call_method_late hbase hfew hline rfl (thn (ho.run pins s σ H _ I h) fun v s1 ⟨x, H1, I1, r1, ty, q1⟩ => ?_)
  obtain ⟨p, od, ys, rfl, hp, hod⟩ := ty
  cases r1
  obtain ⟨g1, _, _, _, ⟨o2, g2, g3, _⟩⟩ : ObjOk _ _ _ _ _ (.frz od (.tup ys)) := I1.hok _ _ hp
  refine ⟨"tuple", id, pa, slot, hty, ⟨o2, g2, g3⟩, fun a e => by cases e; exact ⟨od, g1, hod⟩, ?_⟩
  have hA := ha.run cpos pins s1 σ H1 _ I1 q1
  rw [hs] at hA ⊢
  refine Calls.callWith_builtin (by show (false || (backTo cpos (starEach es X.env)).any (·.1)) = false; rw [hplain] <;> rfl) (Calls.evalArgs_plain ?_)
  exact thn hA fun us s2 ⟨vs, H2, I2, r2, q2⟩ => hm pins s2 σ H2 (.ref p) vs (.ref p) us Q I2 rfl r2 q2
end
section
variable {W : Type} {R : Rsc W} {F H F1 H1 : Hp} {w w1 : W} {X : Cx} {K : PySem.W.Frag}
def PTx (Q : VK) : D → Hp → Hp → Prop := fun d F' H' => ∀ v, ExT F' v d → Q v H'
def RefTx (R : Rsc W) (t : TE) (f : FE W) : Prop := ∀ (B : Bs) (η : EnvD) (w : W) (σ : L2.St) (F H : Hp), StOk R B η w σ F H → ∀ Q : VK, Post R F H B.X (f η w) (PTx Q) → t σ H Q
/-- an expression whose value is a tuple of which all is known -/
structure DTx (X : Cx) (R : Rsc W) (e : Expr) (t : TE) (f : FE W) : Prop where
  pe : PE X e t
  rf : RefTx R t f
def eVx (i : Nat) : FE W := fun η w => match η[i]? with
  | some (.tx d) => .ok (d, w)
  | _ => .stk
theorem ref_vx (i : Nat) : RefTx R (tVar i) (eVx i : FE W) := fun B η w σ F H S Q p => by
  unfold eVx at p
  split at p
  · rename_i d h
    obtain ⟨v, h1, h2⟩ := S.tx h
    exact ⟨v, h1, p.here S.wok v h2⟩
  · exact p.elim
theorem dtx_v (i : Nat) {x : Str} {pos : Pos} (hN : X.N[i]? = some x := by rfl) (hv : Vis X.env.scope x := by first | exact Or.inl rfl | exact Or.inr (Or.inl rfl) | exact Or.inr (Or.inr rfl)) (hd : (x == ("__debug__" : Str)) = false := by decide)
    (hcd : (x == ("__classdict__" : Str)) = false := by decide) : DTx X R (.Name x pos) (tVar i) (eVx i) := ⟨pe_var hN hv hd hcd, ref_vx i⟩
theorem Post.tupX {Xc : String → Prop} {ds : List D} {vs : List V} {Q : VK} (k : Wok R F H w) (h : DnL F vs ds) (p : Post R F H Xc (.ok (.tuple ds, w)) (PTx Q)) : ∀ q od, H q = none → od.dict = none → Q (.ref q) (upd H q (.frz od (.tup vs))) := fun q od n hd =>
  p _ _ (Ext.new k n) (k.new n) _ ⟨q, od, vs, ds, rfl, upd_same, hd, h.mono fun a u x => by rw [upd_ne (ne_of_none x (k.Fnone n))]; exact x, rfl⟩
def tupleXD : List D → Res D
  | [.list xs] => .ok (.tuple xs)
  | _ => .stk
theorem nx_tupleX : NoX1 tupleXD := by intro ds c; unfold tupleXD; split <;> simp
variable {x : Str} {p pos : Pos} {e a b : Expr} {es : List Expr} {t : TA} {fs : FA W} {te ta tb : TE} {fe fa fb : FE W}
theorem dtx_tuple (hK : X.K = K) (hg : Gl X x) (hm : X.mg x = none) (hv : bootBuiltins x = some (.type "tuple")) (ha : DB X R (e :: es) t fs) (hn : x ≠ "__name__" := by decide) (hdb : (x == ("__debug__" : Str)) = false := by decide)
    (he : starEach (e :: es) X.env = (false, eval e X.env) :: starEach es X.env := by rfl) (hpl : (backTo pos (starEach es X.env)).any (·.1) = false := by rfl) : DTx X R (.Call (.Name x p) (e :: es) [] pos) (tCB (rTupX K) t) (eCall tupleXD fs) := by
  subst hK
  refine ⟨pe_callTy call_tupleX hg hm hv ha.pa hn hdb he hpl, fun B η w σ F H S Q p => ha.rf B η w σ F H S _ (p.bind fun ds w1 F1 H1 e k p vs hvs => ?_)⟩
  unfold tupleXD at p
  split at p
  · obtain ⟨v, rfl, hv⟩ := hvs.one
    obtain ⟨q, us, rfl, hq, hd⟩ := hv.lst k
    exact ⟨q, us, rfl, SqL.of hq, p.tupX k hd⟩
  · exact p.elim
theorem ExT.sq {v : V} {d : D} (k : Wok R F H w) (h : ExT F v d) : ∃ a od vs ds, v = .ref a ∧ H a = some (.frz od (.tup vs)) ∧ od.dict = none ∧ DnL F vs ds ∧ d = .tuple ds := by
  obtain ⟨a, od, vs, ds, h1, h2, h3, h4, h5⟩ := h
  exact ⟨a, od, vs, ds, h1, k.at h2 id, h3, h4, h5⟩
/-- list(x) -/
def listXD : D → Res D
  | .tuple xs => .ok (.list xs)
  | _ => .stk
theorem pa_one {X : Cx} {e : Expr} {te : TE} (h : PE X e te) (hs : starEach (e :: []) X.env = (false, eval e X.env) :: starEach [] X.env) : PA X [e] (tCons te tNil) := pa_cons h pa_nil hs
theorem dn_listX (hK : X.K = K) (hg : Gl X x) (hm : X.mg x = none) (hv : bootBuiltins x = some (.type "list")) (ha : DTx X R e te fe) (hn : x ≠ "__name__" := by decide) (hdb : (x == ("__debug__" : Str)) = false := by decide)
    (he : starEach (e :: []) X.env = (false, eval e X.env) :: starEach [] X.env := by rfl) (hpl : (backTo pos (starEach [] X.env)).any (·.1) = false := by rfl) : DN X R (.Call (.Name x p) [e] [] pos) (tCB (fun xs H Q => ∃ p ys, xs = [.ref p] ∧ (SqL K H p ys ∨ SqT K H p ys) ∧ ∀ l, H l = none → Q (.ref l) (upd H l (.lst ys))) (tCons te tNil)) (e1 listXD fe) := by
  subst hK
  refine ⟨pe_callTy call_list_of hg hm hv (pa_one ha.pe he) hn hdb he hpl, fun B η w σ F H S Q p => ha.rf B η w σ F H S _ (p.bind fun d w1 F1 H1 e k p v hv => ?_)⟩
  unfold listXD at p
  split at p
  · obtain ⟨q, od, us, ds, rfl, hq, _, hd, e'⟩ := hv.sq k
    cases e'
    exact ⟨q, us, rfl, .inr (.inl (.inr ⟨od, hq⟩)), Post.lstN k hd (PN_go (fun q hq => e.none S.wok k hq) p)⟩
  · exact p.elim
/-- x.index(y) -/
def indexXD (a b : D) : Res D := match a with
  | .tuple xs => match SeqAt.shaped b && SeqAt.shaped (.list xs) with
    | true => match placeD xs b with
      | some j => .ok (.int (j : Nat))
      | none => .stk
    | false => .stk
  | _ => .stk
def eIndexX (fa fb : FE W) : FE W := fun η w => bindM (fa η w) fun d w1 => bindM (fb η w1) fun b w2 => liftM (indexXD d b) w2
theorem de_indexX {apos cpos : Pos} (hK : X.K = K) (hu2 : X.A.units + 65 < cLine) (ha : DTx X R a ta fa) (hb : DQ X R b tb fb)
    (hbs : attributeBase a "index" X.env (eval a X.env) = eval a X.env := by rfl) (hf : ((backTo cpos (starEach (b :: []) X.env)).all (fun x => !x.1) && (backToKw cpos (keywordEach [] X.env)).all (fun x => x.1.isSome)
      && decide ((b :: []).length + ([] : List Keyword).length + (if ([] : List Keyword).isEmpty then 0 else 1) < 30)) = true := by rfl) (hl : (apos.endLine == cpos.line) = true := by rfl) (hs : starEach (b :: []) X.env = (false, eval b X.env) :: starEach [] X.env := by rfl)
    (hp : (backTo cpos (starEach [] X.env)).any (·.1) = false := by rfl) : DE X R (.Call (.Attribute a "index" apos) [b] [] cpos) (tBMX (rIndexTD K) ta (tCons tb tNil)) (eIndexX fa fb) := by
  subst hK
  refine ⟨pe_bmX PySem.F.plainAttrs_tuple PySem.F.slot_tuple_index PySem.F.type_tuple_index (mt_indexTD hu2) ha.pe (pa_cons hb.pe pa_nil hs) hbs hf hl hs hp, fun B η w σ F H S Q p => ha.rf B η w σ F H S _ (p.bind fun d w1 F1 H1 e k p v hv => ?_)⟩
  obtain ⟨q, od, us, ds, rfl, hq, hod, hd, rfl⟩ := hv.sq k
  refine ⟨⟨q, od, us, rfl, hq, hod⟩, hb.rf B η w1 σ F1 H1 (S.go e k) _ (p.bind fun c w2 F2 H2 e2 k2 p u hu => ?_)⟩
  unfold indexXD at p
  dsimp only at p
  split at p
  · rename_i hs
    rw [Bool.and_eq_true] at hs
    split at p
    · rename_i j hj
      obtain ⟨z, g1, g2, g3⟩ := placeD_some hj
      have pl1 := PyData.plain_of_canLay0 _ (SeqAt.canLay_of_shaped hs.1)
      have pl2 := PyData.plain_of_canLay0 _ (SeqAt.canLay_of_shaped hs.2)
      obtain ⟨q', od', us', ds', e1, hq', _, hd', e2'⟩ := (hv.mono e2.mono).sq k2
      cases e1
      cases e2'
      exact ⟨q, u, c, _, j, z, rfl, rfl, .tup (.inl (.inr ⟨_, hq'⟩)) (hd'.dp k2.sub (by simpa [PyData.plain] using pl2)), hu.dp k2 pl1, hs.2, hs.1, g1, g2, g3, p.here k2 _ (.int _)⟩
    · exact p.elim
  · exact p.elim
/-- x = such a tuple -/
def sSetTx (i : Nat) (f : FE W) : FS W := fun η w => bindM (f η w) fun d w1 => .ok (.nx (η.set i (.tx d)), w1)
theorem ds_setTx {i : Nat} {x : Str} {pos' : Pos} (hN : X.N.Nodup) (hi : X.N[i]? = some x) (hx : Loc X.env.scope x) (he : DTx X R e te fe) (hs : swapsWith e (some (.Name x pos')) pos.line X.env = pure false := by rfl) (hf : X.fn x = true ∨ X.env.scope.names.lookup x = some .local := by first | exact .inl rfl | exact .inr rfl | assumption) :
    DS X R (.Assign [.Name x pos'] e pos) (tAsg te (gName i)) (sSetTx i fe) := ⟨ps_set hN hi hx he.pe hs hf, fun B η w σ F H S Dd p =>
  he.rf B η w σ F H S _ (p.bind S fun d w1 F1 H1 S1 e p v hv => p _ F1 H1 (S1.setTx i hv))⟩
def mTx (f : FE W) (r : FM W) : FM W := fun η w => bindM (f η w) fun d w1 => bindM (r η w1) fun sl w2 => .ok (.tx d :: sl, w2)
theorem dm_tx {fm : FM W} (he : DTx X R e te fe) (hr : DM X R es t fm) (hs : starEach (e :: es) X.env = (false, eval e X.env) :: starEach es X.env := by rfl) : DM X R (e :: es) (tCons te t) (mTx fe fm) := ⟨pa_cons he.pe hr.pa hs, fun B η w σ F H S Q p =>
  he.rf B η w σ F H S _ (p.bind fun d w1 F1 H1 e1 k p v hv => hr.rf B η w1 σ F1 H1 (S.go e1 k) _ (p.bind fun sl w2 F2 H2 e2 k2 p vs ps hsl => p.here k2 _ _ (.tx (hv.mono e2.mono) (hsl.weak fun q => e1.none0 k))))⟩
/-! ### a def whose last statement hands such a tuple back -/
def PostSX (R : Rsc W) (B : Bs) (r : Res (Out × W)) (Dd : Ends) : Prop := match r with
  | .ok (.rt d, w') => ∀ v F' H', Ext R B.F B.H F' H' → Wok R F' H' w' → ExT F' v d → Dd.rt v H'
  | .ok _ => False
  | .exc c => B.X c
  | .stk => False
def RefSX (R : Rsc W) (t : TS) (g : FS W) : Prop := ∀ (B : Bs) (η : EnvD) (w : W) (σ : L2.St) (F H : Hp), StOk R B η w σ F H → ∀ Dd : Ends, PostSX R B (g η w) Dd → t Dd σ H
structure DSX (X : Cx) (R : Rsc W) (st : List Stmt) (t : TS) (g : FS W) : Prop where
  ps : PSs X st t
  rf : RefSX R t g
def sSeqX (g h : FS W) : FS W := fun η w => bindM (g η w) fun o w1 => match o with
  | .nx η' => h η' w1
  | _ => .stk
theorem PostSX.bind {α : Type} {B : Bs} {η : EnvD} {σ : L2.St} {r : Res (α × W)} {k : α → W → Res (Out × W)} {Dd : Ends} {P : α → Hp → Hp → Prop} (S : StOk R B η w σ F H) (p : PostSX R B (bindM r k) Dd)
    (h : ∀ a w1 F1 H1, StOk R B η w1 σ F1 H1 → Ext R F H F1 H1 → PostSX R B (k a w1) Dd → P a F1 H1) : Post R F H B.X r P := by
  match r, p with
  | .ok (a, w1), p => exact fun F1 H1 e o => h a w1 F1 H1 (S.go e o) e p
  | .exc c, p => exact p
  | .stk, p => exact p
theorem dsx_ret (he : DTx X R e te fe) : DSX X R [.Return (some e) pos] (tRet te) (sRet fe) := ⟨pss_one (ps_ret he.pe), fun B η w σ F H S Dd p =>
  he.rf B η w σ F H S _ (p.bind S fun d w1 F1 H1 S1 e p v hv => p v F1 H1 S1.ext S1.wok hv)⟩
theorem dsx_cons {st : Stmt} {sts : List Stmt} {tS uS : TS} {gS hS : FS W} (h1 : DS X R st tS gS) (h2 : DSX X R sts uS hS) : DSX X R (st :: sts) (tSeq tS uS) (sSeqX gS hS) := ⟨pss_cons h1.ps h2.ps, fun B η w σ F H S Dd p => h1.rf B η w σ F H S _ (by
    unfold sSeqX at p
    revert p
    generalize gS η w = r
    intro p
    match r, p with
    | .ok (.nx η', w1), p => exact fun σ' F' H' S => h2.rf B η' w1 σ' F' H' S Dd p
    | .ok (.rt d, w1), p => exact p.elim
    | .ok (.bk η', w1), p => exact p.elim
    | .ok (.ct η', w1), p => exact p.elim
    | .exc c, p => exact p
    | .stk, p => exact p)⟩
end
/-! ### a def whose first argument is such a tuple -/
def spX (m : List D → Res D) : Sp := fun vs H Q _ => ∃ (F : Hp) (v : V) (d : D) (us : List V) (ds : List D), vs = v :: us ∧ Wok R0 F H () ∧ ExT F v d ∧ DnL F us ds ∧ Post R0 F H (fun _ => False) (liftM (m (d :: ds)) ()) (PV Q)
/-- .. and whose value is one, too -/
def spXX (m : List D → Res D) : Sp := fun vs H Q _ => ∃ (F : Hp) (v : V) (d : D) (us : List V) (ds : List D), vs = v :: us ∧ Wok R0 F H () ∧ ExT F v d ∧ DnL F us ds ∧ Post R0 F H (fun _ => False) (liftM (m (d :: ds)) ()) (PTx Q)
def runX (n N : Nat) (g : FS Unit) (ds : List D) : Res D := match ds with
  | d :: ds => match Nat.beq ds.length n with
    | false => .stk
    | true => match g (Slot.tx d :: (ds.map Slot.fr ++ List.replicate (N - (n + 1)) Slot.un)) () with
      | .ok (.rt d, _) => .ok d
      | .ok (.nx _, _) => .ok .none
      | .exc c => .exc c
      | _ => .stk
  | [] => .stk
def runXX (n N : Nat) (g : FS Unit) (ds : List D) : Res D := match ds with
  | d :: ds => match Nat.beq ds.length n with
    | false => .stk
    | true => match g (Slot.tx d :: (ds.map Slot.fr ++ List.replicate (N - (n + 1)) Slot.un)) () with
      | .ok (.rt d, _) => .ok d
      | .exc c => .exc c
      | _ => .stk
  | [] => .stk
theorem StOk.startX {F H : Hp} {v : V} {d : D} {vs : List V} {ds : List D} {Nm : List Str} (k : Wok R0 F H ()) (hv : ExT F v d) (h : DnL F vs ds) (n : Nat) (hn : ds.length = n) (Xc : String → Prop) : StOk R0 ⟨F, H, Xc⟩ (Slot.tx d :: (ds.map Slot.fr ++ List.replicate (Nm.length - (n + 1)) Slot.un)) () (L2.start Nm (v :: vs)) F H where
  wok := k
  ext := .refl
  len := by unfold L2.start; simp [h.len, hn]
  fr := fun {i d} e => by
    subst hn
    cases i with
    | zero => simp at e
    | succ i =>
      have e' : (ds.map Slot.fr ++ List.replicate (Nm.length - (ds.length + 1)) Slot.un)[i]? = some (Slot.fr d) := by simpa using e
      have z := h.at_map e'
      unfold L2.start
      rw [List.map_cons, List.length_cons, h.len, List.cons_append, List.getElem?_cons_succ]
      exact z
  ow := fun {i d} e => by
    cases i with
    | zero => simp at e
    | succ i => exact (no_ow (by simpa using e)).elim
  hd := fun {i} e => by
    cases i with
    | zero => simp at e
    | succ i => exact (no_hd (by simpa using e)).elim
  vl := fun {i v} e => by
    cases i with
    | zero => simp at e
    | succ i => exact (no_vl (by simpa using e)).elim
  inj := fun {i j d e p} q => by
    cases i with
    | zero => simp at q
    | succ i => exact (no_ow (by simpa using q)).elim
  tx := fun {i d'} e => by
    cases i with
    | zero =>
      simp at e
      subst e
      exact ⟨v, rfl, hv⟩
    | succ i => exact (no_tx (by simpa using e)).elim
theorem spX_len {n N : Nat} {g : FS Unit} {vs : List V} {H : Hp} {Q : VK} {E : XK} (h : spX (runX n N g) vs H Q E) : vs.length = n + 1 := by
  obtain ⟨F, v, d, us, ds, rfl, k, hv, hd, p⟩ := h
  unfold runX at p
  dsimp only at p
  split at p
  · exact p.elim
  · rename_i hb
    rw [List.length_cons, hd.len, Nat.eq_of_beq_eq_true hb]
theorem spXX_len {n N : Nat} {g : FS Unit} {vs : List V} {H : Hp} {Q : VK} {E : XK} (h : spXX (runXX n N g) vs H Q E) : vs.length = n + 1 := by
  obtain ⟨F, v, d, us, ds, rfl, k, hv, hd, p⟩ := h
  unfold runXX at p
  dsimp only at p
  split at p
  · exact p.elim
  · rename_i hb
    rw [List.length_cons, hd.len, Nat.eq_of_beq_eq_true hb]
theorem body_endX {X : Cx} {body : List Stmt} {t : TS} {g : FS Unit} {Nm : List Str} {n : Nat} {vs : List V} {H : Hp} {Q : VK} {E : XK} (hN : X.N = Nm) (d : DSs X R0 body t g) (h : spX (runX n Nm.length g) vs H Q E) :
    ∃ t, PSs X body t ∧ t { nx := fun _ H' => Q .non H', rt := Q } (start Nm vs) H := by
  obtain ⟨F, v, dv, us, ds, rfl, k, hv, hd, p⟩ := h
  refine ⟨t, d.ps, ?_⟩
  unfold runX at p
  dsimp only at p
  split at p
  · exact p.elim
  · rename_i hb
    have hn : ds.length = n := Nat.eq_of_beq_eq_true hb
    refine d.rf _ _ _ _ F H (StOk.startX k hv hd n hn (fun _ => False)) _ ?_
    revert p
    generalize g (Slot.tx dv :: (ds.map Slot.fr ++ List.replicate (Nm.length - (n + 1)) Slot.un)) () = r
    intro p
    match r, p with
    | .ok (.rt d, ()), p => exact fun v F' H' e o hv => p F' H' e o v hv
    | .ok (.nx η, ()), p => exact fun σ' F' H' S => p F' H' S.ext S.wok _ .non
    | .ok (.bk η, ()), p => exact p.elim
    | .ok (.ct η, ()), p => exact p.elim
    | .exc c, p => exact p
    | .stk, p => exact p.elim
theorem body_endXX {X : Cx} {body : List Stmt} {t : TS} {g : FS Unit} {Nm : List Str} {n : Nat} {vs : List V} {H : Hp} {Q : VK} {E : XK} (hN : X.N = Nm) (d : DSX X R0 body t g) (h : spXX (runXX n Nm.length g) vs H Q E) :
    ∃ t, PSs X body t ∧ t { nx := fun _ H' => Q .non H', rt := Q } (start Nm vs) H := by
  obtain ⟨F, v, dv, us, ds, rfl, k, hv, hd, p⟩ := h
  refine ⟨t, d.ps, ?_⟩
  unfold runXX at p
  dsimp only at p
  split at p
  · exact p.elim
  · rename_i hb
    have hn : ds.length = n := Nat.eq_of_beq_eq_true hb
    refine d.rf _ _ _ _ F H (StOk.startX k hv hd n hn (fun _ => False)) _ ?_
    revert p
    generalize g (Slot.tx dv :: (ds.map Slot.fr ++ List.replicate (Nm.length - (n + 1)) Slot.un)) () = r
    intro p
    match r, p with
    | .ok (.rt d, ()), p => exact fun v F' H' e o hv => p F' H' e o v hv
    | .ok (.nx η, ()), p => exact p.elim
    | .ok (.bk η, ()), p => exact p.elim
    | .ok (.ct η, ()), p => exact p.elim
    | .exc c, p => exact p
    | .stk, p => exact p.elim
/-- such defs, standing -/
structure CalleeX (P : Program) (w : World) (K : PySem.W.Frag) (mg : Str → Option Value) (base : Heap) (x : Str) (k : Nat) (m : List D → Res D) : Prop where
  ex : ∃ f fd ps, FnOk P w K mg base CX0 k f fd ps (spX m) ∧ mg x = some (.ref f) ∧ PySem.W.keepIn K (.ref f) = true ∧ Binds K fd ps []
structure CalleeXX (P : Program) (w : World) (K : PySem.W.Frag) (mg : Str → Option Value) (base : Heap) (x : Str) (k : Nat) (m : List D → Res D) : Prop where
  ex : ∃ f fd ps, FnOk P w K mg base CX0 k f fd ps (spXX m) ∧ mg x = some (.ref f) ∧ PySem.W.keepIn K (.ref f) = true ∧ Binds K fd ps []
section
variable {W : Type} {R : Rsc W} {F H F1 H1 : Hp} {w w1 : W} {X : Cx}
/-- arguments, of which the first is such a tuple -/
structure DAX (X : Cx) (R : Rsc W) (es : List Expr) (t : TA) (f : FA W) : Prop where
  pa : PA X es t
  rf : ∀ (B : Bs) (η : EnvD) (w : W) (σ : L2.St) (F H : Hp), StOk R B η w σ F H → ∀ Q : List V → Hp → Prop, Post R F H B.X (f η w) (fun ds F' H' => ∀ v us d ds', ds = d :: ds' → ExT F' v d → DnL F' us ds' → Q (v :: us) H') → t σ H Q
variable {x : Str} {p pos : Pos} {e : Expr} {es : List Expr} {t : TA} {fs : FA W} {te : TE} {fe : FE W} {m : List D → Res D} {k : Nat}
theorem dax_cons (ha : DTx X R e te fe) (hr : DA X R es t fs) (hs : starEach (e :: es) X.env = (false, eval e X.env) :: starEach es X.env := by rfl) : DAX X R (e :: es) (tCons te t) (aCons fe fs) := ⟨pa_cons ha.pe hr.pa hs, fun B η w σ F H S Q p =>
  ha.rf B η w σ F H S _ (p.bind fun d w1 F1 H1 e k p v hv => hr.rf B η w1 σ F1 H1 (S.go e k) _ (p.bind fun ds w2 F2 H2 e2 k2 p vs hvs => p.here k2 _ _ _ _ rfl (hv.mono e2.mono) hvs))⟩
theorem Post.to0P {P : D → Hp → Hp → Prop} {Xc : String → Prop} {r : Res D} (nx : ∀ c, r ≠ .exc c) (k : Wok R F H w) (p : Post R F H Xc (liftM r w) P) : Post R0 F H (fun _ => False) (liftM r ()) P := by
  match r, nx, p with
  | .ok d, _, p => exact fun F' H' e o => p F' H' (Ext.of0 e) (k.of0 e o)
  | .exc c, nx, _ => exact (nx c rfl).elim
  | .stk, _, p => exact p.elim
theorem Post.unX {P : D → Hp → Hp → Prop} {r : Res D} (p : Post R0 F H (fun _ => False) (liftM (noX r) ()) P) : Post R0 F H (fun _ => False) (liftM r ()) P := by
  match r, p with
  | .ok d, p => exact p
  | .exc c, p => exact p.elim
  | .stk, p => exact p
theorem de_callX (C : CalleeX X.prog X.w X.K X.mg X.base x k m) (hr : Room k X.A) (hg : Gl X x)
    (ha : DAX X R (e :: es) t fs) (hdb : (x == ("__debug__" : Str)) = false := by decide) (he : starEach (e :: es) X.env = (false, eval e X.env) :: starEach es X.env := by rfl) (hpl : (backTo pos (starEach es X.env)).any (·.1) = false := by rfl) :
    DE X R (.Call (.Name x p) (e :: es) [] pos) (tCall (spX m) [] E0 t) (eFn (fun ds => noX (m ds)) fs) := by
  obtain ⟨f, fd, ps, F, hm, hk, hb⟩ := C.ex
  refine ⟨pe_call F hr hg hm hk hb .nil pass0 ha.pa hdb he hpl, fun B η w σ F H S Q p => ha.rf B η w σ F H S _ (p.bind fun ds w1 F1 H1 e k p v us d ds' hds hv hd => ?_)⟩
  subst hds
  exact ⟨F1, v, d, us, ds', by rw [List.append_nil], k.to0, hv, hd, (Post.to0P (fun c => noX_ne) k p).unX⟩
theorem dtx_callX (C : CalleeXX X.prog X.w X.K X.mg X.base x k m) (hr : Room k X.A) (hg : Gl X x)
    (ha : DAX X R (e :: es) t fs) (hdb : (x == ("__debug__" : Str)) = false := by decide) (he : starEach (e :: es) X.env = (false, eval e X.env) :: starEach es X.env := by rfl) (hpl : (backTo pos (starEach es X.env)).any (·.1) = false := by rfl) :
    DTx X R (.Call (.Name x p) (e :: es) [] pos) (tCall (spXX m) [] E0 t) (eFn (fun ds => noX (m ds)) fs) := by
  obtain ⟨f, fd, ps, F, hm, hk, hb⟩ := C.ex
  refine ⟨pe_call F hr hg hm hk hb .nil pass0 ha.pa hdb he hpl, fun B η w σ F H S Q p => ha.rf B η w σ F H S _ (p.bind fun ds w1 F1 H1 e k p v us d ds' hds hv hd => ?_)⟩
  subst hds
  exact ⟨F1, v, d, us, ds', by rw [List.append_nil], k.to0, hv, hd, (Post.to0P (fun c => noX_ne) k p).unX⟩
end
/-! ### where the tables of a def that makes lambdas lie -/
theorem tab_mk {K : PySem.W.Frag} {x : Str} {f c P : Addr} {oc oc2 : Value} {od od2 : Option Addr} {fd : FuncData} {vs : Array Value} {osl osl2 : Array (Option Value)} (a : PySem.W.nsIn K mainGlobals x = some (some (.ref f)))
    (l : K.lookup f = some ⟨oc, od, .func fd, osl⟩) (cc : fd.code = .ref c) (l2 : K.lookup c = some ⟨oc2, od2, .fields vs, osl2⟩) (v : (vs[11]? : Option Value) = some (.ref P)) : PySem.W.tabIn K x = some (c, P) := by
  unfold PySem.W.tabIn
  rw [a]
  dsimp only
  rw [l]
  dsimp only
  rw [cc]
  dsimp only
  rw [l2]
  dsimp only
  rw [v]
end Cw

set_option autoImplicit false
namespace Cw
open PySem PySem.Spec PyProof.Rows L2

/-! ### what is drawn, told by all that may be drawn -/
section
variable {W α β : Type}
/-- from whatever state: f ends, with a value that P likes -/
def Rn (f : W → Res (α × W)) (P : α → Prop) : Prop := ∀ w, ∃ a w', f w = .ok (a, w') ∧ P a
theorem Rn.bind {f : W → Res (α × W)} {g : α → W → Res (β × W)} {P : α → Prop} {Q : β → Prop} (h : Rn f P) (k : ∀ a, P a → Rn (g a) Q) : Rn (fun w => bindM (f w) g) Q := fun w => by
  obtain ⟨a, w1, e, p⟩ := h w
  obtain ⟨b, w2, e2, q⟩ := k a p w1
  exact ⟨b, w2, by show bindM (f w) g = _; rw [e]; exact e2, q⟩
theorem Rn.ret {a : α} {P : α → Prop} (p : P a) : Rn (W := W) (fun w => .ok (a, w)) P := fun w => ⟨a, w, rfl, p⟩
theorem Rn.imp {f : W → Res (α × W)} {P Q : α → Prop} (h : Rn f P) (k : ∀ a, P a → Q a) : Rn f Q := fun w => by
  obtain ⟨a, w1, e, p⟩ := h w
  exact ⟨a, w1, e, k a p⟩
def okP (r : Res α) (P : α → Bool) : Bool := match r with
  | .ok a => P a
  | _ => false
theorem Rn.lift {r : Res α} {P : α → Bool} (h : okP r P = true) : Rn (W := W) (liftM r) (fun a => P a = true) := fun w => by
  unfold okP at h
  split at h
  · exact ⟨_, w, rfl, h⟩
  · cases h
abbrev Ck (α : Type) := EnvD → (α → Bool) → Bool
class Sm (f : EnvD → W → Res (α × W)) (c : outParam (Ck α)) : Prop where
  h : ∀ η P, c η P = true → Rn (f η) (fun a => P a = true)
class SmG (f : α → EnvD → W → Res (EnvD × W)) (c : outParam (α → Ck EnvD)) : Prop where
  h : ∀ d η P, c d η P = true → Rn (f d η) (fun a => P a = true)
class SmS (m : List D → W → Res (D × W)) (c : outParam (List D → (D → Bool) → Bool)) : Prop where
  h : ∀ ds P, c ds P = true → Rn (m ds) (fun a => P a = true)
def ckN (f' : EnvD → Unit → Res (α × Unit)) : Ck α := fun η P => match f' η () with
  | .ok (a, _) => P a
  | _ => false
theorem Nt.rn {f : EnvD → W → Res (α × W)} {f' : EnvD → Unit → Res (α × Unit)} [Nt f f'] {η : EnvD} {P : α → Bool} (h : ckN f' η P = true) : Rn (f η) (fun a => P a = true) := fun w => by
  unfold ckN at h
  split at h
  · rename_i a _ e
    exact ⟨a, w, Nt.ok (f := f) e w, h⟩
  · cases h
instance (priority := high) sm_nt {f : EnvD → W → Res (α × W)} {f' : EnvD → Unit → Res (α × Unit)} [Nt f f'] : Sm f (ckN f') := ⟨fun η P h => Nt.rn h⟩
def ckNG (f' : α → EnvD → Unit → Res (EnvD × Unit)) : α → Ck EnvD := fun d η P => match f' d η () with
  | .ok (a, _) => P a
  | _ => false
instance (priority := high) sm_ntg {f : α → EnvD → W → Res (EnvD × W)} {f' : α → EnvD → Unit → Res (EnvD × Unit)} [NtG f f'] : SmG f (ckNG f') := ⟨fun d η P h w => by
  unfold ckNG at h
  split at h
  · rename_i a _ e
    exact ⟨a, w, by rw [NtG.h (f := f), e]; rfl, h⟩
  · cases h⟩
variable {fa fb fc fe : FE W} {ca cb cc ce : Ck D} {ft fu : FT W} {ct cu : Ck Bool} {fs : FA W} {cs : Ck (List D)} {ga gb gc : FS W} {da db dc : Ck Out} {fi : FI W} {ci : Ck (List D)} {fm : FM W} {cm : Ck (List Slot)} {tg : TgF W} {cg : D → Ck EnvD} {i j : Nat}
instance sm_e2 {f : D → D → Res D} [Sm fa ca] [Sm fb cb] : Sm (e2 f fa fb) (fun η P => ca η fun a => cb η fun b => okP (f a b) P) := ⟨fun η P h => (Sm.h η _ h).bind fun a h => (Sm.h η _ h).bind fun b h => .lift h⟩
instance sm_e1 {f : D → Res D} [Sm fa ca] : Sm (e1 f fa) (fun η P => ca η fun a => okP (f a) P) := ⟨fun η P h => (Sm.h η _ h).bind fun a h => .lift h⟩
def isB (P : Bool → Bool) : D → Bool
  | .bool b => P b
  | _ => false
instance sm_tst [Sm fa ca] : Sm (tst fa) (fun η P => ca η (isB P)) := ⟨fun η P h => (Sm.h η _ h).bind fun a h => by
  cases a with
  | bool b => exact .ret h
  | _ => cases h⟩
instance sm_tAnd [Sm ft ct] [Sm fu cu] : Sm (tAndF ft fu) (fun η P => ct η fun b => match b with | true => cu η P | false => P false) := ⟨fun η P h => (Sm.h η _ h).bind fun b h => by
  cases b with
  | true => exact Sm.h η _ h
  | false => exact .ret h⟩
instance sm_tOr [Sm ft ct] [Sm fu cu] : Sm (tOrF ft fu) (fun η P => ct η fun b => match b with | true => P true | false => cu η P) := ⟨fun η P h => (Sm.h η _ h).bind fun b h => by
  cases b with
  | false => exact Sm.h η _ h
  | true => exact .ret h⟩
instance sm_tNot [Sm ft ct] : Sm (tNotF ft) (fun η P => ct η fun b => P (!b)) := ⟨fun η P h => (Sm.h η _ h).bind fun b h => .ret h⟩
instance sm_eIf [Sm ft ct] [Sm fa ca] [Sm fb cb] : Sm (eIf ft fa fb) (fun η P => ct η fun b => match b with | true => ca η P | false => cb η P) := ⟨fun η P h => (Sm.h η _ h).bind fun b h => by
  cases b with
  | true => exact Sm.h η _ h
  | false => exact Sm.h η _ h⟩
instance sm_aCons [Sm fa ca] [Sm fs cs] : Sm (aCons fa fs) (fun η P => ca η fun a => cs η fun as => P (a :: as)) := ⟨fun η P h => (Sm.h η _ h).bind fun a h => (Sm.h η _ h).bind fun b h => .ret h⟩
def okLn (P : List D → Bool) (ds : List D) : Bool := match okLen ds.length with
  | true => P ds
  | false => false
instance sm_eTup [Sm fs cs] : Sm (eTup fs) (fun η P => cs η (Cw.okLn fun ds => P (.tuple ds))) := ⟨fun η P h => (Sm.h η _ h).bind fun ds h => by
  unfold Cw.okLn at h
  revert h
  cases okLen ds.length with
  | true => exact fun h => .ret h
  | false => intro h; cases h⟩
instance sm_eLst [Sm fs cs] : Sm (eLst fs) (fun η P => cs η (Cw.okLn fun ds => P (.list ds))) := ⟨fun η P h => (Sm.h η _ h).bind fun ds h => by
  unfold Cw.okLn at h
  revert h
  cases okLen ds.length with
  | true => exact fun h => .ret h
  | false => intro h; cases h⟩
instance sm_eCall {f : List D → Res D} [Sm fs cs] : Sm (eCall f fs) (fun η P => cs η fun a => okP (f a) P) := ⟨fun η P h => (Sm.h η _ h).bind fun a h => .lift h⟩
instance sm_eFn {f : List D → Res D} [Sm fs cs] : Sm (eFn f fs) (fun η P => cs η fun a => okP (f a) P) := ⟨fun η P h => (Sm.h η _ h).bind fun a h => .lift h⟩
def isHd (η : EnvD) (i : Nat) : Bool := match η[i]? with
  | some .hd => true
  | _ => false
instance sm_eFnS {m : List D → W → Res (D × W)} {c : List D → (D → Bool) → Bool} [Sm fs cs] [SmS m c] : Sm (eFnS i m fs) (fun η P => isHd η i && cs η fun ds => c ds P) := ⟨fun η P h => by
  rw [Bool.and_eq_true] at h
  obtain ⟨h1, h⟩ := h
  unfold isHd at h1
  split at h1
  · rename_i e
    unfold eFnS
    rw [e]
    refine (Sm.h η _ h).bind fun ds h w => ?_
    obtain ⟨a, w1, e1, p⟩ := SmS.h (m := m) ds P h w
    exact ⟨a, w1, by rw [e1]; rfl, p⟩
  · cases h1⟩
def ckRun (n N : Nat) (c : Ck Out) : List D → (D → Bool) → Bool := fun ds P => match Nat.beq ds.length n with
  | false => false
  | true => c (Slot.hd :: (ds.map Slot.fr ++ List.replicate (N - (n + 1)) Slot.un)) fun o => match o with
    | .rt d => P d
    | .nx _ => P .none
    | _ => false
instance sm_runS {n N : Nat} [Sm ga da] : SmS (runS n N ga) (ckRun n N da) := ⟨fun ds P h w => by
  unfold ckRun at h
  unfold runS
  revert h
  cases Nat.beq ds.length n with
  | false => intro h; cases h
  | true =>
    intro h
    obtain ⟨o, w1, e1, p⟩ := Sm.h (f := ga) _ _ h w
    dsimp only
    rw [e1]
    cases o with
    | rt d => exact ⟨d, w1, rfl, p⟩
    | nx η => exact ⟨.none, w1, rfl, p⟩
    | bk η => cases p
    | ct η => cases p⟩
instance sm_sSeq [Sm ga da] [Sm gb db] : Sm (sSeq ga gb) (fun η P => da η fun o => match o with | .nx η' => db η' P | o => P o) := ⟨fun η P h => (Sm.h η _ h).bind fun o h => by
  cases o with
  | nx η' => exact Sm.h η' _ h
  | rt d => exact .ret h
  | bk η' => exact .ret h
  | ct η' => exact .ret h⟩
instance sm_sIf [Sm ft ct] [Sm ga da] [Sm gb db] : Sm (sIf ft ga gb) (fun η P => ct η fun b => match b with | true => da η P | false => db η P) := ⟨fun η P h => (Sm.h η _ h).bind fun b h => by
  cases b with
  | true => exact Sm.h η _ h
  | false => exact Sm.h η _ h⟩
instance sm_sSet [Sm fa ca] : Sm (sSet i fa) (fun η P => ca η fun d => P (.nx (η.set i (.fr d)))) := ⟨fun η P h => (Sm.h η _ h).bind fun d h => .ret h⟩
instance sm_sSetN [Sm fa ca] : Sm (sSetN i fa) (fun η P => ca η fun d => P (.nx (η.set i (.ow d)))) := ⟨fun η P h => (Sm.h η _ h).bind fun d h => .ret h⟩
instance sm_sRet [Sm fa ca] : Sm (sRet fa) (fun η P => ca η fun d => P (.rt d)) := ⟨fun η P h => (Sm.h η _ h).bind fun d h => .ret h⟩
instance sm_sDrop [Sm fa ca] : Sm (sDrop fa) (fun η P => ca η fun d => P (.nx η)) := ⟨fun η P h => (Sm.h η _ h).bind fun d h => .ret h⟩
instance sm_sFz [Sm ga da] : Sm (sFz i ga) (fun η P => match η[i]? with | some (.ow d) => da (η.set i (.fr d)) P | _ => da η P) := ⟨fun η P h => by
  unfold sFz
  revert h
  rcases η[i]? with _ | (_ | _ | _ | _ | _ | _) <;> exact fun h => Sm.h _ _ h⟩
def ckFor (cg : D → Ck EnvD) (c : Ck Out) : List D → Ck Out
  | [], η, P => P (.nx η)
  | d :: r, η, P => cg d η fun η1 => c η1 fun o => match o with
    | .nx η' => ckFor cg c r η' P
    | .ct η' => ckFor cg c r η' P
    | .bk η' => P (.nx η')
    | .rt d => P (.rt d)
theorem sm_forL [SmG tg cg] [Sm ga da] : ∀ (ds : List D) (η : EnvD) (P : Out → Bool), ckFor cg da ds η P = true → Rn (forL tg ga ds η) (fun o => P o = true)
  | [], η, P, h => .ret h
  | d :: r, η, P, h => (SmG.h (f := tg) d η _ h).bind fun η1 h => (Sm.h η1 _ h).bind fun o h => by
    cases o with
    | nx η' => exact sm_forL r η' P h
    | ct η' => exact sm_forL r η' P h
    | bk η' => exact .ret h
    | rt d => exact .ret h
instance sm_sFor [Sm fi ci] [SmG tg cg] [Sm ga da] : Sm (sFor fi tg ga) (fun η P => ci η fun ds => ckFor cg da ds η P) := ⟨fun η P h => (Sm.h η _ h).bind fun ds h => sm_forL ds η P h⟩
def ckLc (own : List Nat) (cg : D → Ck EnvD) (ct : Ck Bool) (ce : Ck D) : List D → Ck (List D)
  | [], _, P => P []
  | d :: r, η, P => cg d (wipeD η own) fun η1 => ct η1 fun b => match b with
    | true => ce η1 fun y => ckLc own cg ct ce r η fun ys => P (y :: ys)
    | false => ckLc own cg ct ce r η P
theorem sm_lcL {own : List Nat} [SmG tg cg] [Sm ft ct] [Sm fe ce] : ∀ (ds : List D) (η : EnvD) (P : List D → Bool), ckLc own cg ct ce ds η P = true → Rn (lcL own tg ft fe ds η) (fun o => P o = true)
  | [], η, P, h => .ret h
  | d :: r, η, P, h => (SmG.h (f := tg) d _ _ h).bind fun η1 h => (Sm.h η1 _ h).bind fun b h => by
    cases b with
    | true => exact (Sm.h η1 _ h).bind fun y h => (sm_lcL r η _ h).bind fun ys h => .ret h
    | false => exact sm_lcL r η P h
instance sm_eLc {own : List Nat} [Sm fi ci] [SmG tg cg] [Sm ft ct] [Sm fe ce] : Sm (eLc fi own tg ft fe) (fun η P => ci η fun ds => ckLc own cg ct ce ds η fun ys => P (.list ys)) := ⟨fun η P h => (Sm.h η _ h).bind fun ds h => (sm_lcL ds η _ h).bind fun ys h => .ret h⟩
def ckWhile (ct : Ck Bool) (c : Ck Out) : Nat → Ck Out
  | 0, _, _ => false
  | n + 1, η, P => ct η fun b => match b with
    | false => P (.nx η)
    | true => c η fun o => match o with
      | .nx η' => ckWhile ct c n η' P
      | .ct η' => ckWhile ct c n η' P
      | .bk η' => P (.nx η')
      | .rt d => P (.rt d)
theorem sm_while [Sm ft ct] [Sm ga da] : ∀ (n : Nat) (η : EnvD) (P : Out → Bool), ckWhile ct da n η P = true → Rn (sWhile n ft ga η) (fun o => P o = true)
  | 0, η, P, h => by cases h
  | n + 1, η, P, h => by
    unfold sWhile
    refine (Sm.h (f := ft) η _ h).bind fun b h => ?_
    cases b with
    | false => exact .ret h
    | true =>
      refine (Sm.h (f := ga) η _ h).bind fun o h => ?_
      cases o with
      | nx η' => exact sm_while n η' P h
      | ct η' => exact sm_while n η' P h
      | bk η' => exact .ret h
      | rt d => exact .ret h
instance sm_sWhile {n : Nat} [Sm ft ct] [Sm ga da] : Sm (sWhile n ft ga) (fun η P => ckWhile ct da n η P) := ⟨fun η P h => sm_while n η P h⟩
instance sm_sAsg [Sm fa ca] [SmG tg cg] : Sm (sAsg fa tg) (fun η P => ca η fun d => cg d η fun η' => P (.nx η')) := ⟨fun η P h => (Sm.h η _ h).bind fun d h => (SmG.h (f := tg) d η _ h).bind fun η' h => .ret h⟩
instance sm_mFr [Sm fa ca] [Sm fm cm] : Sm (mFr fa fm) (fun η P => ca η fun d => cm η fun sl => P (.fr d :: sl)) := ⟨fun η P h => (Sm.h η _ h).bind fun d h => (Sm.h η _ h).bind fun sl h => .ret h⟩
instance sm_mOw [Sm fa ca] [Sm fm cm] : Sm (mOw fa fm) (fun η P => ca η fun d => cm η fun sl => P (.ow d :: sl)) := ⟨fun η P h => (Sm.h η _ h).bind fun d h => (Sm.h η _ h).bind fun sl h => .ret h⟩
instance sm_sPar [Sm fm cm] : Sm (sPar i j fm) (fun η P => cm η fun sl => match sl with | [a, b] => P (.nx ((η.set i a).set j b)) | _ => false) := ⟨fun η P h => (Sm.h η _ h).bind fun sl h => by
  rcases sl with _ | ⟨a, _ | ⟨b, _ | ⟨c, r⟩⟩⟩
  · cases h
  · cases h
  · exact .ret h
  · cases h⟩
instance sm_sApp [Sm fa ca] : Sm (sApp i fa) (fun η P => match ownL η i with | some xs => (ca η fun d => match okLen xs.length with | true => P (.nx (η.set i (.ow (.list (xs ++ [d]))))) | false => false) | none => false) := ⟨fun η P h => by
  unfold sApp
  revert h
  cases ownL η i with
  | none => intro h; cases h
  | some xs =>
    intro h
    refine (Sm.h (f := fa) η _ h).bind fun d h => ?_
    revert h
    cases okLen xs.length with
    | true => exact fun h => .ret h
    | false => intro h; cases h⟩
/-- expressions that change a slot's object -/
class SmX (f : FX W) (c : outParam (Ck (D × EnvD))) : Prop where
  h : ∀ η P, c η P = true → Rn (f η) (fun a => P a = true)
variable {fx : FX W} {cx : Ck (D × EnvD)}
instance sm_xPop : SmX (xPop i : FX W) (fun η P => match ownL η i with | some xs => (match lastD xs with | some d => P (d, η.set i (.ow (.list xs.dropLast))) | none => false) | none => false) := ⟨fun η P h => by
  unfold xPop
  revert h
  cases ownL η i with
  | none => intro h; cases h
  | some xs =>
    dsimp only
    cases lastD xs with
    | some d => exact fun h => .ret h
    | none => intro h; cases h⟩
instance sm_xPopAt [Sm fa ca] : SmX (xPopAt i fa) (fun η P => match ownL η i with | some xs => (ca η fun k => match k with | .int k => (match decide (0 ≤ k) && decide (k < 1000000) with | true => (match xs[k.toNat]? with | some d => P (d, η.set i (.ow (.list (xs.eraseIdx k.toNat)))) | none => false) | false => false) | _ => false) | none => false) := ⟨fun η P h => by
  unfold xPopAt
  revert h
  cases ownL η i with
  | none => intro h; cases h
  | some xs =>
    intro h
    refine (Sm.h (f := fa) η _ h).bind fun k h => ?_
    revert h
    cases k with
    | int k =>
      dsimp only
      cases decide (0 ≤ k) && decide (k < 1000000) with
      | true =>
        cases xs[k.toNat]? with
        | some d => exact fun h => .ret h
        | none => intro h; cases h
      | false => intro h; cases h
    | _ => intro h; cases h⟩
instance sm_sAppX [SmX fx cx] : Sm (sAppX i fx) (fun η P => match ownL η i with | some _ => (cx η fun r => match ownL r.2 i with | some xs => (match okLen xs.length with | true => P (.nx (r.2.set i (.ow (.list (xs ++ [r.1]))))) | false => false) | none => false) | none => false) := ⟨fun η P h => by
  unfold sAppX
  revert h
  cases ownL η i with
  | none => intro h; cases h
  | some xs =>
    intro h
    refine (SmX.h (f := fx) η _ h).bind fun r h => ?_
    revert h
    cases ownL r.2 i with
    | none => intro h; cases h
    | some ys =>
      dsimp only
      cases okLen ys.length with
      | true => exact fun h => .ret h
      | false => intro h; cases h⟩
instance sm_sDropX [SmX fx cx] : Sm (sDropX fx) (fun η P => cx η fun r => P (.nx r.2)) := ⟨fun η P h => (SmX.h (f := fx) η _ h).bind fun r h => .ret h⟩
instance sm_sSetX [SmX fx cx] : Sm (sSetX i fx) (fun η P => cx η fun r => P (.nx (r.2.set i (.fr r.1)))) := ⟨fun η P h => (SmX.h (f := fx) η _ h).bind fun r h => .ret h⟩
end
/-! ### a number is drawn -/
def allN : Nat → (Nat → Bool) → Bool
  | 0, _ => true
  | n + 1, p => allN n p && p n
theorem allN_iff {n : Nat} {p : Nat → Bool} : allN n p = true ↔ ∀ k, k < n → p k = true := by
  induction n with
  | zero => exact ⟨fun _ k h => absurd h (Nat.not_lt_zero k), fun _ => rfl⟩
  | succ n ih =>
    show (allN n p && p n) = true ↔ _
    rw [Bool.and_eq_true, ih]
    exact ⟨fun h k hk => by rcases Nat.lt_succ_iff_lt_or_eq.mp hk with h' | rfl; exact h.1 k h'; exact h.2, fun h => ⟨fun k hk => h k (Nat.lt_succ_of_lt hk), h n (Nat.lt_succ_self n)⟩⟩
def ckPick (ds : List D) (P : D → Bool) : Bool := match ds with
  | [.int (.ofNat n)] => Nat.blt 0 n && Nat.blt n 1000000 && allN n fun k => P (iD k)
  | _ => false
instance sm_pick : SmS m_pick ckPick := ⟨fun ds P h b => by
  unfold ckPick at h
  split at h
  · rename_i n
    rw [Bool.and_eq_true, Bool.and_eq_true] at h
    obtain ⟨⟨h1, h2⟩, h⟩ := h
    have h1' : 0 < n := Nat.le_of_ble_eq_true h1
    have h2' : n < 1000000 := Nat.le_of_ble_eq_true h2
    obtain ⟨r1, r2⟩ := pickB_range (many := (n : Int)) (by omega) b
    refine ⟨.int (pickB (n : Int) b).1, (pickB (n : Int) b).2, ?_, ?_⟩
    · unfold m_pick
      dsimp only
      rw [show (decide (0 < Int.ofNat n) && decide (Int.ofNat n < 1000000)) = true by rw [Bool.and_eq_true]; exact ⟨decide_eq_true (show (0 : Int) < (n : Int) by omega), decide_eq_true (show (n : Int) < 1000000 by omega)⟩]
      rfl
    · have := allN_iff.mp h (pickB (n : Int) b).1.toNat (by omega)
      rw [show iD (pickB (n : Int) b).1.toNat = .int (pickB (n : Int) b).1 from congrArg PyData.int (Int.toNat_of_nonneg r1)] at this
      exact this
  · cases h⟩
end Cw
namespace Cw
open PySem PySem.Spec PyProof.Rows L2
section
variable {W : Type}
theorem rn_forN {i : Nat} {g : FS W} (I : EnvD → Prop) : ∀ (ds : List D) (η : EnvD), (∀ (d : D) (η : EnvD), I η → Rn (g (η.set i (.fr d))) (fun o => ∃ η', o = .nx η' ∧ I η')) → I η → Rn (forL (tgN i) g ds η) (fun o => ∃ η', o = .nx η' ∧ I η')
  | [], η, _, hi => .ret ⟨η, rfl, hi⟩
  | d :: r, η, h, hi => fun w => by
    obtain ⟨o, w1, e, η1, rfl, h1⟩ := h d η hi w
    obtain ⟨o2, w2, e2, p⟩ := rn_forN I r η1 h h1 w1
    refine ⟨o2, w2, ?_, p⟩
    rw [← e2]
    show bindM (g (η.set i (.fr d)) w) _ = _
    rw [e]
    rfl
theorem rn_seq {ga gb : FS W} {η : EnvD} {P Q : Out → Prop} (h : Rn (ga η) P) (k : ∀ o, P o → ∃ η', o = .nx η' ∧ Rn (gb η') Q) : Rn (sSeq ga gb η) Q := fun w => by
  obtain ⟨o, w1, e, p⟩ := h w
  obtain ⟨η', rfl, h2⟩ := k o p
  obtain ⟨o2, w2, e2, q⟩ := h2 w1
  exact ⟨o2, w2, by unfold sSeq; rw [e]; exact e2, q⟩
theorem rn_forS {fi : FI W} {i : Nat} {g : FS W} {η : EnvD} {ds : List D} {P : Out → Prop} (h : ∀ w, fi η w = .ok (ds, w)) (k : Rn (forL (tgN i) g ds η) P) : Rn (sFor fi (tgN i) g η) P := fun w => by
  unfold sFor
  rw [h w]
  exact k w
def ckOf {α : Type} {f : EnvD → W → Res (α × W)} {c : Ck α} (_ : Sm f c) : Ck α := c
def ckOfS {f : List D → W → Res (D × W)} {c : List D → (D → Bool) → Bool} (_ : SmS f c) : List D → (D → Bool) → Bool := c
end
end Cw

set_option autoImplicit true
set_option maxHeartbeats 4000000
namespace Lw
open PySem PySem.Spec PyProof.Rows L2 LamX NdefX Cw
def topS (i : Nat) : Stmt := PySem.Challenge.pw_circusweek_k82_whole_even_steps_round_a.main.body.getD i (.Pass ⟨0, 0, 0, 0⟩)
structure Bt (mg : Str → Option Value) : Prop where
  b_abs : mg "abs" = none
  b_all : mg "all" = none
  b_bool : mg "bool" = none
  b_enumerate : mg "enumerate" = none
  b_int : mg "int" = none
  b_isinstance : mg "isinstance" = none
  b_len : mg "len" = none
  b_list : mg "list" = none
  b_max : mg "max" = none
  b_min : mg "min" = none
  b_range : mg "range" = none
  b_sorted : mg "sorted" = none
  b_sum : mg "sum" = none
  b_tuple : mg "tuple" = none
  b_zip : mg "zip" = none
  g_LEAST_CUPS : ∃ t, mg "LEAST_CUPS" = some (.int 2 t)
  g_LEAST_HORSES : ∃ t, mg "LEAST_HORSES" = some (.int 2 t)
  g_MOST_BEATS : ∃ t, mg "MOST_BEATS" = some (.int 8 t)
  g_MOST_COLOUR : ∃ t, mg "MOST_COLOUR" = some (.int 5 t)
  g_MOST_COMMANDS : ∃ t, mg "MOST_COMMANDS" = some (.int 3 t)
  g_MOST_CUPS : ∃ t, mg "MOST_CUPS" = some (.int 9 t)
  g_MOST_HORSES_commands : ∃ t, mg "MOST_HORSES_commands" = some (.int 4 t)
  g_MOST_HORSES_horses : ∃ t, mg "MOST_HORSES_horses" = some (.int 10 t)
  g_MOST_SWAPS : ∃ t, mg "MOST_SWAPS" = some (.int 50 t)
  g_MOST_THROW : ∃ t, mg "MOST_THROW" = some (.int 12 t)
  g_MOST_WORD : ∃ t, mg "MOST_WORD" = some (.int 50 t)
section
variable {P : Program} {w : World} {K : PySem.W.Frag} {mg : Str → Option Value} {base : Heap} {T : List (Addr × Str)}
abbrev s_is_integer : Stmt := topS 1
abbrev n_is_integer : List Str := ["thing"]
theorem sc_is_integer : FnScope n_is_integer ["thing"] (defScope s_is_integer) := ⟨rfl, rfl, rfl, by decide +kernel, rfl, by decide +kernel, by decide +kernel⟩
def m_is_integer : List D → Res D := runF 1 1 (sRet (eAnd (e1 (isiD' "int") (eV 0)) (eNot (e1 (isiD' "bool") (eV 0)))))
theorem ok_is_integer {f : Addr} {fd : FuncData} (F : Fun K "is_integer" "is_integer" s_is_integer f fd) (B : Bt mg)  : FnOk P w K mg base CX0 1 f fd ["thing"] (spD m_is_integer) := by
  refine F.ok sc_is_integer (fun vs H Q E h => spD_len h) (fun cdv A outer s H vs Q E hr h => ?_)
  have hu : (A.deeper (envOfC "is_integer" (defScope s_is_integer) s.heap.objs.size f cdv)).units + 64 < cLine := hr.units
  have hu1 : (A.deeper (envOfC "is_integer" (defScope s_is_integer) s.heap.objs.size f cdv)).units + 1 < cLine := hu_of hr
  have hu2 : (A.deeper (envOfC "is_integer" (defScope s_is_integer) s.heap.objs.size f cdv)).units + 65 < cLine := by have := hr.un; omega
  exact body_end (Nm := n_is_integer) (n := 1) rfl (dss_one (ds_ret (de_and (k_isi (hn2 := by decide) (hd2 := by decide) (s1 := rfl) (s2 := rfl) (hpl := rfl) (K := K) rfl rfl B.b_isinstance (by decide +kernel) rfl B.b_int (by decide +kernel) (dq_of (de_v 0))) (de_one (de_not (k_isi (hn2 := by decide) (hd2 := by decide) (s1 := rfl) (s2 := rfl) (hpl := rfl) (K := K) rfl rfl B.b_isinstance (by decide +kernel) rfl B.b_bool (by decide +kernel) (dq_of (de_v 0)))))))) h
theorem cal_is_integer {h : Heap} (X : K.In h) (G : h.Ns mainGlobals mg) (A : FunAt K "is_integer" s_is_integer) (B : Bt mg)  : Callee P w K mg base "is_integer" 1 m_is_integer := by
  obtain ⟨f, fd, a, F⟩ := A
  exact ⟨f, fd, ["thing"], ok_is_integer F B , PySem.W.mg_of X G a, F.kp, F.binds fun _ _ _ _ _ _ us hl => match us, hl with | [_], _ => rfl⟩
abbrev s_is_tuple_of : Stmt := topS 3
abbrev n_is_tuple_of : List Str := ["thing", "size"]
theorem sc_is_tuple_of : FnScope n_is_tuple_of ["thing", "size"] (defScope s_is_tuple_of) := ⟨rfl, rfl, rfl, by decide +kernel, rfl, by decide +kernel, by decide +kernel⟩
def m_is_tuple_of : List D → Res D := runF 2 2 (sRet (eAnd (e1 (isiD' "tuple") (eV 0)) (e2 eqD (eCall lenD (aCons (eV 0) aNil)) (eV 1))))
theorem ok_is_tuple_of {f : Addr} {fd : FuncData} (F : Fun K "is_tuple_of" "is_tuple_of" s_is_tuple_of f fd) (B : Bt mg)  : FnOk P w K mg base CX0 1 f fd ["thing", "size"] (spD m_is_tuple_of) := by
  refine F.ok sc_is_tuple_of (fun vs H Q E h => spD_len h) (fun cdv A outer s H vs Q E hr h => ?_)
  have hu : (A.deeper (envOfC "is_tuple_of" (defScope s_is_tuple_of) s.heap.objs.size f cdv)).units + 64 < cLine := hr.units
  have hu1 : (A.deeper (envOfC "is_tuple_of" (defScope s_is_tuple_of) s.heap.objs.size f cdv)).units + 1 < cLine := hu_of hr
  have hu2 : (A.deeper (envOfC "is_tuple_of" (defScope s_is_tuple_of) s.heap.objs.size f cdv)).units + 65 < cLine := by have := hr.un; omega
  exact body_end (Nm := n_is_tuple_of) (n := 2) rfl (dss_one (ds_ret (de_and (k_isi (hn2 := by decide) (hd2 := by decide) (s1 := rfl) (s2 := rfl) (hpl := rfl) (K := K) rfl rfl B.b_isinstance (by decide +kernel) rfl B.b_tuple (by decide +kernel) (dq_of (de_v 0))) (de_one (de_cmp (k_eq (K := K) rfl hu) nx_eq (dq_of (de_callB (hn := by decide) (hdb := by decide) (he := rfl) (hpl := rfl) (k_len (K := K) rfl) nx_len rfl B.b_len (by decide +kernel) (db_cons (hs := rfl) (dq_of (de_v 0)) db_nil))) (dq_of (de_v 1)) (nomark _)))))) h
theorem cal_is_tuple_of {h : Heap} (X : K.In h) (G : h.Ns mainGlobals mg) (A : FunAt K "is_tuple_of" s_is_tuple_of) (B : Bt mg)  : Callee P w K mg base "is_tuple_of" 1 m_is_tuple_of := by
  obtain ⟨f, fd, a, F⟩ := A
  exact ⟨f, fd, ["thing", "size"], ok_is_tuple_of F B , PySem.W.mg_of X G a, F.kp, F.binds fun _ _ _ _ _ _ us hl => match us, hl with | [_, _], _ => rfl⟩
abbrev s_beat_of : Stmt := topS 24
abbrev n_beat_of : List Str := ["beat", "many"]
theorem sc_beat_of : FnScope n_beat_of ["beat", "many"] (defScope s_beat_of) := ⟨rfl, rfl, rfl, by decide +kernel, rfl, by decide +kernel, by decide +kernel⟩
def m_beat_of : List D → Res D := runF 2 2 (sRet (e2 subD (eV 0) (e2 mulD (eV 1) (e2 fdivD (eV 0) (eV 1)))))
theorem ok_beat_of {f : Addr} {fd : FuncData} (F : Fun K "beat_of" "beat_of" s_beat_of f fd) (B : Bt mg)  : FnOk P w K mg base CX0 1 f fd ["beat", "many"] (spD m_beat_of) := by
  refine F.ok sc_beat_of (fun vs H Q E h => spD_len h) (fun cdv A outer s H vs Q E hr h => ?_)
  have hu : (A.deeper (envOfC "beat_of" (defScope s_beat_of) s.heap.objs.size f cdv)).units + 64 < cLine := hr.units
  have hu1 : (A.deeper (envOfC "beat_of" (defScope s_beat_of) s.heap.objs.size f cdv)).units + 1 < cLine := hu_of hr
  have hu2 : (A.deeper (envOfC "beat_of" (defScope s_beat_of) s.heap.objs.size f cdv)).units + 65 < cLine := by have := hr.un; omega
  exact body_end (Nm := n_beat_of) (n := 2) rfl (dss_one (ds_ret (de_op o_sub nx_i2 (dq_of (de_v 0)) (dq_of (de_op (k_mul (K := K) rfl) nx_mul (dq_of (de_v 1)) (dq_of (de_op o_fdiv nx_fdiv (dq_of (de_v 0)) (dq_of (de_v 1))))))))) h
theorem cal_beat_of {h : Heap} (X : K.In h) (G : h.Ns mainGlobals mg) (A : FunAt K "beat_of" s_beat_of) (B : Bt mg)  : Callee P w K mg base "beat_of" 1 m_beat_of := by
  obtain ⟨f, fd, a, F⟩ := A
  exact ⟨f, fd, ["beat", "many"], ok_beat_of F B , PySem.W.mg_of X G a, F.kp, F.binds fun _ _ _ _ _ _ us hl => match us, hl with | [_, _], _ => rfl⟩
abbrev s_moved_by : Stmt := topS 45
abbrev n_moved_by : List Str := ["order", "stand", "place"]
theorem sc_moved_by : FnScope n_moved_by ["order", "stand"] (defScope s_moved_by) := ⟨rfl, rfl, rfl, by decide +kernel, rfl, by decide +kernel, by decide +kernel⟩
def m_moved_by : List D → Res D := runF 2 3 (sRet (eCall tupleD (aCons (eLc (iSeq (eV 0)) [2] (tgN 2) tYesF (e2 ixD (eV 1) (eV 2))) aNil)))
theorem ok_moved_by {f : Addr} {fd : FuncData} (F : Fun K "moved_by" "moved_by" s_moved_by f fd) (B : Bt mg)  : FnOk P w K mg base CX0 1 f fd ["order", "stand"] (spD m_moved_by) := by
  refine F.ok sc_moved_by (fun vs H Q E h => spD_len h) (fun cdv A outer s H vs Q E hr h => ?_)
  have hu : (A.deeper (envOfC "moved_by" (defScope s_moved_by) s.heap.objs.size f cdv)).units + 64 < cLine := hr.units
  have hu1 : (A.deeper (envOfC "moved_by" (defScope s_moved_by) s.heap.objs.size f cdv)).units + 1 < cLine := hu_of hr
  have hu2 : (A.deeper (envOfC "moved_by" (defScope s_moved_by) s.heap.objs.size f cdv)).units + 65 < cLine := by have := hr.un; omega
  exact body_end (Nm := n_moved_by) (n := 2) rfl (dss_one (ds_ret (de_callTy (hn := by decide) (hdb := by decide) (he := rfl) (hpl := rfl) (k_tuple (K := K) rfl) nx_tuple rfl B.b_tuple (by decide +kernel) (db_cons (hs := rfl) (dq_of (de_of (dn_lc (hs := fun _ => rfl) rfl sc_moved_by.nd (own := [("place", 2)]) (g := (gName 2)) (dj_of (k_seq (K := K) rfl (de_v 0))) (blkOk_by (own := [("place", 2)]) (N := n_moved_by) (sc := defScope s_moved_by) (by decide +kernel)) (fun _ _ _ _ _ => (dgn_name (i := 2) sc_moved_by.nd rfl (by first | exact .inl rfl | exact .inr rfl))) (ng_n 2) (by decide) (fun _ _ _ _ _ => dts_nil) (fun _ _ _ _ _ => (k_ix (hs := fun _ _ => rfl) (K := K) rfl (dq_of (de_v 1)) (dq_of (de_v 2))))))) db_nil)))) h
theorem cal_moved_by {h : Heap} (X : K.In h) (G : h.Ns mainGlobals mg) (A : FunAt K "moved_by" s_moved_by) (B : Bt mg)  : Callee P w K mg base "moved_by" 1 m_moved_by := by
  obtain ⟨f, fd, a, F⟩ := A
  exact ⟨f, fd, ["order", "stand"], ok_moved_by F B , PySem.W.mg_of X G a, F.kp, F.binds fun _ _ _ _ _ _ us hl => match us, hl with | [_, _], _ => rfl⟩
abbrev s_first_stand : Stmt := topS 51
abbrev n_first_stand : List Str := ["commands"]
theorem sc_first_stand : FnScope n_first_stand ["commands"] (defScope s_first_stand) := ⟨rfl, rfl, rfl, by decide +kernel, rfl, by decide +kernel, by decide +kernel⟩
def m_first_stand : List D → Res D := runF 1 1 (sRet (eCall tupleD (aCons (eRgL (g1 (eCall lenD (aCons (e2 ixD (eV 0) (eC (.int 0))) aNil)))) aNil)))
theorem ok_first_stand {f : Addr} {fd : FuncData} (F : Fun K "first_stand" "first_stand" s_first_stand f fd) (B : Bt mg)  : FnOk P w K mg base CX0 1 f fd ["commands"] (spD m_first_stand) := by
  refine F.ok sc_first_stand (fun vs H Q E h => spD_len h) (fun cdv A outer s H vs Q E hr h => ?_)
  have hu : (A.deeper (envOfC "first_stand" (defScope s_first_stand) s.heap.objs.size f cdv)).units + 64 < cLine := hr.units
  have hu1 : (A.deeper (envOfC "first_stand" (defScope s_first_stand) s.heap.objs.size f cdv)).units + 1 < cLine := hu_of hr
  have hu2 : (A.deeper (envOfC "first_stand" (defScope s_first_stand) s.heap.objs.size f cdv)).units + 65 < cLine := by have := hr.un; omega
  exact body_end (Nm := n_first_stand) (n := 1) rfl (dss_one (ds_ret (de_callTy (hn := by decide) (hdb := by decide) (he := rfl) (hpl := rfl) (k_tuple (K := K) rfl) nx_tuple rfl B.b_tuple (by decide +kernel) (db_cons (hs := rfl) (dq_of (de_of (dn_listRg (na := rfl) rfl rfl B.b_list (dr_1 (na := rfl) rfl B.b_range (dq_of (de_callB (hn := by decide) (hdb := by decide) (he := rfl) (hpl := rfl) (k_len (K := K) rfl) nx_len rfl B.b_len (by decide +kernel) (db_cons (hs := rfl) (dq_of (k_ix (hs := fun _ _ => rfl) (K := K) rfl (dq_of (de_v 0)) (dq_of de_int))) db_nil))))))) db_nil)))) h
theorem cal_first_stand {h : Heap} (X : K.In h) (G : h.Ns mainGlobals mg) (A : FunAt K "first_stand" s_first_stand) (B : Bt mg)  : Callee P w K mg base "first_stand" 1 m_first_stand := by
  obtain ⟨f, fd, a, F⟩ := A
  exact ⟨f, fd, ["commands"], ok_first_stand F B , PySem.W.mg_of X G a, F.kp, F.binds fun _ _ _ _ _ _ us hl => match us, hl with | [_], _ => rfl⟩
abbrev s_swapped : Stmt := topS 63
abbrev n_swapped : List Str := ["line", "one", "other", "row"]
theorem sc_swapped : FnScope n_swapped ["line", "one", "other"] (defScope s_swapped) := ⟨rfl, rfl, rfl, by decide +kernel, rfl, by decide +kernel, by decide +kernel⟩
def m_swapped : List D → Res D := runF 3 4 (sSeq (sSetN 3 (eCall listD (aCons (eV 0) aNil))) (sSeq (sAsg (eTup (aCons (e2 ixD (eVq 3) (eV 2)) (aCons (e2 ixD (eVq 3) (eV 1)) aNil))) (tgT (tgCons (tgSub 3 (eV 1)) (tgCons (tgSub 3 (eV 2)) tgNil)))) (sRet (eCall tupleD (aCons (eVq 3) aNil)))))
theorem ok_swapped {f : Addr} {fd : FuncData} (F : Fun K "swapped" "swapped" s_swapped f fd) (B : Bt mg)  : FnOk P w K mg base CX0 1 f fd ["line", "one", "other"] (spD m_swapped) := by
  refine F.ok sc_swapped (fun vs H Q E h => spD_len h) (fun cdv A outer s H vs Q E hr h => ?_)
  have hu : (A.deeper (envOfC "swapped" (defScope s_swapped) s.heap.objs.size f cdv)).units + 64 < cLine := hr.units
  have hu1 : (A.deeper (envOfC "swapped" (defScope s_swapped) s.heap.objs.size f cdv)).units + 1 < cLine := hu_of hr
  have hu2 : (A.deeper (envOfC "swapped" (defScope s_swapped) s.heap.objs.size f cdv)).units + 65 < cLine := by have := hr.un; omega
  exact body_end (Nm := n_swapped) (n := 3) rfl (dss_cons (ds_setN (hs := rfl) (hf := .inl rfl) (i := 3) sc_swapped.nd rfl (by first | exact .inl rfl | exact .inr rfl) (dn_callTy (hn := by decide) (hdb := by decide) (he := rfl) (hpl := rfl) (k_list (K := K) rfl) nx_list rfl B.b_list (by decide +kernel) (db_cons (hs := rfl) (dq_of (de_v 0)) db_nil))) (dss_cons (ds_asg (hs := rfl) (hw := rfl) (h1 := rfl) (de_tup (da_cons (hs := rfl) (k_ix (hs := fun _ _ => rfl) (K := K) rfl (dq_v 3) (dq_of (de_v 2))) (da_cons (hs := rfl) (k_ix (hs := fun _ _ => rfl) (K := K) rfl (dq_v 3) (dq_of (de_v 1))) da_nil))) (ggtK (K := K) rfl rfl (by rfl) (by rfl) (tl_cons (tl_cons tl_nil)) (fun ds η w c _ => (nxg_cons (nxg_sub nxe_v) (nxg_cons (nxg_sub nxe_v) nxg_nil)) ds η w c) (ggs (by rfl) (dg_sub (hN := rfl) (hv := by first | exact Or.inl rfl | exact Or.inr (Or.inl rfl)) (hd := by decide) (hcd := by decide) (ha := fun _ => rfl) 3 (hk := (dq_of (de_v 1)))) (ggs (by rfl) (dg_sub (hN := rfl) (hv := by first | exact Or.inl rfl | exact Or.inr (Or.inl rfl)) (hd := by decide) (hcd := by decide) (ha := fun _ => rfl) 3 (hk := (dq_of (de_v 2)))) dgs_nil)))) (dss_one (ds_ret (de_callTy (hn := by decide) (hdb := by decide) (he := rfl) (hpl := rfl) (k_tuple (K := K) rfl) nx_tuple rfl B.b_tuple (by decide +kernel) (db_cons (hs := rfl) (dq_v 3) db_nil)))))) h
theorem cal_swapped {h : Heap} (X : K.In h) (G : h.Ns mainGlobals mg) (A : FunAt K "swapped" s_swapped) (B : Bt mg)  : Callee P w K mg base "swapped" 1 m_swapped := by
  obtain ⟨f, fd, a, F⟩ := A
  exact ⟨f, fd, ["line", "one", "other"], ok_swapped F B , PySem.W.mg_of X G a, F.kp, F.binds fun _ _ _ _ _ _ us hl => match us, hl with | [_, _, _], _ => rfl⟩
def mX_swapped : List D → Res D := runXX 2 4 (sSeqX (sSetN 3 (e1 listXD (eVx 0))) (sSeqX (sAsg (eTup (aCons (e2 ixD (eVq 3) (eV 2)) (aCons (e2 ixD (eVq 3) (eV 1)) aNil))) (tgT (tgCons (tgSub 3 (eV 1)) (tgCons (tgSub 3 (eV 2)) tgNil)))) (sRet (eCall tupleXD (aCons (eVq 3) aNil)))))
theorem okX_swapped {f : Addr} {fd : FuncData} (F : Fun K "swapped" "swapped" s_swapped f fd) (B : Bt mg)  : FnOk P w K mg base CX0 1 f fd ["line", "one", "other"] (spXX mX_swapped) := by
  refine F.ok sc_swapped (fun vs H Q E h => spXX_len h) (fun cdv A outer s H vs Q E hr h => ?_)
  have hu : (A.deeper (envOfC "swapped" (defScope s_swapped) s.heap.objs.size f cdv)).units + 64 < cLine := hr.units
  have hu1 : (A.deeper (envOfC "swapped" (defScope s_swapped) s.heap.objs.size f cdv)).units + 1 < cLine := hu_of hr
  have hu2 : (A.deeper (envOfC "swapped" (defScope s_swapped) s.heap.objs.size f cdv)).units + 65 < cLine := by have := hr.un; omega
  exact body_endXX (Nm := n_swapped) (n := 2) rfl (dsx_cons (ds_setN (hs := rfl) (hf := .inl rfl) (i := 3) sc_swapped.nd rfl (by first | exact .inl rfl | exact .inr rfl) (dn_listX (hn := by decide) (hdb := by decide) (he := rfl) (hpl := rfl) (K := K) rfl rfl B.b_list (by decide +kernel) (dtx_v 0))) (dsx_cons (ds_asg (hs := rfl) (hw := rfl) (h1 := rfl) (de_tup (da_cons (hs := rfl) (k_ix (hs := fun _ _ => rfl) (K := K) rfl (dq_v 3) (dq_of (de_v 2))) (da_cons (hs := rfl) (k_ix (hs := fun _ _ => rfl) (K := K) rfl (dq_v 3) (dq_of (de_v 1))) da_nil))) (ggtK (K := K) rfl rfl (by rfl) (by rfl) (tl_cons (tl_cons tl_nil)) (fun ds η w c _ => (nxg_cons (nxg_sub nxe_v) (nxg_cons (nxg_sub nxe_v) nxg_nil)) ds η w c) (ggs (by rfl) (dg_sub (hN := rfl) (hv := by first | exact Or.inl rfl | exact Or.inr (Or.inl rfl)) (hd := by decide) (hcd := by decide) (ha := fun _ => rfl) 3 (hk := (dq_of (de_v 1)))) (ggs (by rfl) (dg_sub (hN := rfl) (hv := by first | exact Or.inl rfl | exact Or.inr (Or.inl rfl)) (hd := by decide) (hcd := by decide) (ha := fun _ => rfl) 3 (hk := (dq_of (de_v 2)))) dgs_nil)))) (dsx_ret (dtx_tuple (hn := by decide) (hdb := by decide) (he := rfl) (hpl := rfl) (K := K) rfl rfl B.b_tuple (by decide +kernel) (db_cons (hs := rfl) (dq_v 3) db_nil))))) h
theorem calX_swapped {h : Heap} (X : K.In h) (G : h.Ns mainGlobals mg) (A : FunAt K "swapped" s_swapped) (B : Bt mg)  : CalleeXX P w K mg base "swapped" 1 mX_swapped := by
  obtain ⟨f, fd, a, F⟩ := A
  exact ⟨f, fd, ["line", "one", "other"], okX_swapped F B , PySem.W.mg_of X G a, F.kp, F.binds fun _ _ _ _ _ _ us hl => match us, hl with | [_, _, _], _ => rfl⟩
abbrev s_round_of : Stmt := topS 65
abbrev n_round_of : List Str := ["line", "place", "found", "here"]
theorem sc_round_of : FnScope n_round_of ["line", "place"] (defScope s_round_of) := ⟨rfl, rfl, rfl, by decide +kernel, rfl, by decide +kernel, by decide +kernel⟩
def m_round_of : List D → Res D := runF 2 4 (sSeq (sPar 2 3 (mOw (eLst (aCons (eV 1) aNil)) (mFr (e2 ixD (eV 0) (eV 1)) mNil))) (sSeq (sWhile 1000 (tst (e2 neD (eV 3) (eV 1))) (sSeq (sApp 2 (eV 3)) (sSet 3 (e2 ixD (eV 0) (eV 3))))) (sFz 2 (sRet (eV 2)))))
theorem ok_round_of {f : Addr} {fd : FuncData} (F : Fun K "round_of" "round_of" s_round_of f fd) (B : Bt mg)  : FnOk P w K mg base CX0 1 f fd ["line", "place"] (spD m_round_of) := by
  refine F.ok sc_round_of (fun vs H Q E h => spD_len h) (fun cdv A outer s H vs Q E hr h => ?_)
  have hu : (A.deeper (envOfC "round_of" (defScope s_round_of) s.heap.objs.size f cdv)).units + 64 < cLine := hr.units
  have hu1 : (A.deeper (envOfC "round_of" (defScope s_round_of) s.heap.objs.size f cdv)).units + 1 < cLine := hu_of hr
  have hu2 : (A.deeper (envOfC "round_of" (defScope s_round_of) s.heap.objs.size f cdv)).units + 65 < cLine := by have := hr.un; omega
  exact body_end (Nm := n_round_of) (n := 2) rfl (dss_cons (ds_par (hs := rfl) (i := 2) (j := 3) rfl sc_round_of.nd rfl rfl (by decide) rfl rfl (dm_ow (hs := rfl) (dn_lst (da_cons (hs := rfl) (de_v 1) da_nil)) (dm_fr (hs := rfl) (k_ix (hs := fun _ _ => rfl) (K := K) rfl (dq_of (de_v 0)) (dq_of (de_v 1))) dm_nil)) (by rfl)) (dss_cons (ds_while 1000 PassesOwn.never (dt_cmp (k_ne (K := K) rfl hu) nx_ne (dq_of (de_v 3)) (dq_of (de_v 1)) (nomark _)) (dss_cons (ds_app (hN := rfl) (hv := by first | exact Or.inl rfl | exact Or.inr (Or.inl rfl)) (hb := rfl) (hf := rfl) (hl := rfl) (hs := rfl) (hp := rfl) (hsw := rfl) (hd := by decide) (hcd := by decide) 2 (he := (de_v 3))) (dss_one (ds_set (hs := rfl) (hf := .inl rfl) (i := 3) sc_round_of.nd rfl (by first | exact .inl rfl | exact .inr rfl) (k_ix (hs := fun _ _ => rfl) (K := K) rfl (dq_of (de_v 0)) (dq_of (de_v 3))))))) (dss_one (ds_fz 2 (ds_ret (de_v 2)))))) h
theorem cal_round_of {h : Heap} (X : K.In h) (G : h.Ns mainGlobals mg) (A : FunAt K "round_of" s_round_of) (B : Bt mg)  : Callee P w K mg base "round_of" 1 m_round_of := by
  obtain ⟨f, fd, a, F⟩ := A
  exact ⟨f, fd, ["line", "place"], ok_round_of F B , PySem.W.mg_of X G a, F.kp, F.binds fun _ _ _ _ _ _ us hl => match us, hl with | [_, _], _ => rfl⟩
abbrev s_left_to : Stmt := topS 69
abbrev n_left_to : List Str := ["here", "line", "cup"]
theorem sc_left_to : FnScope n_left_to ["here", "line"] (defScope s_left_to) := ⟨rfl, rfl, rfl, by decide +kernel, rfl, by decide +kernel, by decide +kernel⟩
def m_left_to : List D → Res D := runX 1 3 (sRet (eCall tupleD (aCons (eLc (iSeq (eV 1)) [2] (tgN 2) tYesF (eIndexX (eVx 0) (eV 2))) aNil)))
theorem ok_left_to {f : Addr} {fd : FuncData} (F : Fun K "left_to" "left_to" s_left_to f fd) (B : Bt mg)  : FnOk P w K mg base CX0 1 f fd ["here", "line"] (spX m_left_to) := by
  refine F.ok sc_left_to (fun vs H Q E h => spX_len h) (fun cdv A outer s H vs Q E hr h => ?_)
  have hu : (A.deeper (envOfC "left_to" (defScope s_left_to) s.heap.objs.size f cdv)).units + 64 < cLine := hr.units
  have hu1 : (A.deeper (envOfC "left_to" (defScope s_left_to) s.heap.objs.size f cdv)).units + 1 < cLine := hu_of hr
  have hu2 : (A.deeper (envOfC "left_to" (defScope s_left_to) s.heap.objs.size f cdv)).units + 65 < cLine := by have := hr.un; omega
  exact body_endX (Nm := n_left_to) (n := 1) rfl (dss_one (ds_ret (de_callTy (hn := by decide) (hdb := by decide) (he := rfl) (hpl := rfl) (k_tuple (K := K) rfl) nx_tuple rfl B.b_tuple (by decide +kernel) (db_cons (hs := rfl) (dq_of (de_of (dn_lc (hs := fun _ => rfl) rfl sc_left_to.nd (own := [("cup", 2)]) (g := (gName 2)) (dj_of (k_seq (K := K) rfl (de_v 1))) (blkOk_by (own := [("cup", 2)]) (N := n_left_to) (sc := defScope s_left_to) (by decide +kernel)) (fun _ _ _ _ _ => (dgn_name (i := 2) sc_left_to.nd rfl (by first | exact .inl rfl | exact .inr rfl))) (ng_n 2) (by decide) (fun _ _ _ _ _ => dts_nil) (fun _ _ _ _ _ => (de_indexX (hbs := rfl) (hf := rfl) (hl := rfl) (hs := rfl) (hp := rfl) (K := K) rfl hu2 (dtx_v 0) (dq_of (de_v 2))))))) db_nil)))) h
theorem cal_left_to {h : Heap} (X : K.In h) (G : h.Ns mainGlobals mg) (A : FunAt K "left_to" s_left_to) (B : Bt mg)  : CalleeX P w K mg base "left_to" 1 m_left_to := by
  obtain ⟨f, fd, a, F⟩ := A
  exact ⟨f, fd, ["here", "line"], ok_left_to F B , PySem.W.mg_of X G a, F.kp, F.binds fun _ _ _ _ _ _ us hl => match us, hl with | [_, _], _ => rfl⟩
abbrev s_turned_by : Stmt := topS 79
abbrev n_turned_by : List Str := ["horses", "places"]
theorem sc_turned_by : FnScope n_turned_by ["horses", "places"] (defScope s_turned_by) := ⟨rfl, rfl, rfl, by decide +kernel, rfl, by decide +kernel, by decide +kernel⟩
def m_turned_by : List D → Res D := runF 2 2 (sRet (e2 addD (eSlice (eV 0) (oSome (eV 1)) oNone) (eSlice (eV 0) oNone (oSome (eV 1)))))
theorem ok_turned_by {f : Addr} {fd : FuncData} (F : Fun K "turned_by" "turned_by" s_turned_by f fd) (B : Bt mg)  : FnOk P w K mg base CX0 1 f fd ["horses", "places"] (spD m_turned_by) := by
  refine F.ok sc_turned_by (fun vs H Q E h => spD_len h) (fun cdv A outer s H vs Q E hr h => ?_)
  have hu : (A.deeper (envOfC "turned_by" (defScope s_turned_by) s.heap.objs.size f cdv)).units + 64 < cLine := hr.units
  have hu1 : (A.deeper (envOfC "turned_by" (defScope s_turned_by) s.heap.objs.size f cdv)).units + 1 < cLine := hu_of hr
  have hu2 : (A.deeper (envOfC "turned_by" (defScope s_turned_by) s.heap.objs.size f cdv)).units + 65 < cLine := by have := hr.un; omega
  exact body_end (Nm := n_turned_by) (n := 2) rfl (dss_one (ds_ret (de_op (k_add (K := K) rfl) nx_add (dq_of (k_slice (K := K) rfl (dq_of (de_v 0)) (do_some (dq_of (de_v 1))) do_none)) (dq_of (k_slice (K := K) rfl (dq_of (de_v 0)) do_none (do_some (dq_of (de_v 1)))))))) h
theorem cal_turned_by {h : Heap} (X : K.In h) (G : h.Ns mainGlobals mg) (A : FunAt K "turned_by" s_turned_by) (B : Bt mg)  : Callee P w K mg base "turned_by" 1 m_turned_by := by
  obtain ⟨f, fd, a, F⟩ := A
  exact ⟨f, fd, ["horses", "places"], ok_turned_by F B , PySem.W.mg_of X G a, F.kp, F.binds fun _ _ _ _ _ _ us hl => match us, hl with | [_, _], _ => rfl⟩
abbrev s_ways_round : Stmt := topS 85
abbrev n_ways_round : List Str := ["places", "size", "after", "place", "later"]
theorem sc_ways_round : FnScope n_ways_round ["places", "size"] (defScope s_ways_round) := ⟨rfl, rfl, rfl, by decide +kernel, rfl, by decide +kernel, by decide +kernel⟩
def m_ways_round : List D → Res D := runF 2 5 (sSeq (sSet 2 (e2 addD (eSlice (eV 0) (oSome (eC (.int 1))) oNone) (eLc (iSeq (eSlice (eV 0) oNone (oSome (eC (.int 1))))) [3] (tgN 3) tYesF (e2 addD (eV 3) (eV 1))))) (sRet (eLc (iZipF (aCons (eV 0) (aCons (eV 2) aNil))) [3, 4] (tgT (tgCons (tgN 3) (tgCons (tgN 4) tgNil))) tYesF (e2 subD (eV 4) (eV 3)))))
theorem ok_ways_round {f : Addr} {fd : FuncData} (F : Fun K "ways_round" "ways_round" s_ways_round f fd) (B : Bt mg)  : FnOk P w K mg base CX0 1 f fd ["places", "size"] (spD m_ways_round) := by
  refine F.ok sc_ways_round (fun vs H Q E h => spD_len h) (fun cdv A outer s H vs Q E hr h => ?_)
  have hu : (A.deeper (envOfC "ways_round" (defScope s_ways_round) s.heap.objs.size f cdv)).units + 64 < cLine := hr.units
  have hu1 : (A.deeper (envOfC "ways_round" (defScope s_ways_round) s.heap.objs.size f cdv)).units + 1 < cLine := hu_of hr
  have hu2 : (A.deeper (envOfC "ways_round" (defScope s_ways_round) s.heap.objs.size f cdv)).units + 65 < cLine := by have := hr.un; omega
  exact body_end (Nm := n_ways_round) (n := 2) rfl (dss_cons (ds_set (hs := rfl) (hf := .inl rfl) (i := 2) sc_ways_round.nd rfl (by first | exact .inl rfl | exact .inr rfl) (de_op (k_add (K := K) rfl) nx_add (dq_of (k_slice (K := K) rfl (dq_of (de_v 0)) (do_some (dq_of de_int)) do_none)) (dq_of (de_of (dn_lc (hs := fun _ => rfl) rfl sc_ways_round.nd (own := [("place", 3)]) (g := (gName 3)) (dj_of (k_seq (K := K) rfl (k_slice (K := K) rfl (dq_of (de_v 0)) do_none (do_some (dq_of de_int))))) (blkOk_by (own := [("place", 3)]) (N := n_ways_round) (sc := defScope s_ways_round) (by decide +kernel)) (fun _ _ _ _ _ => (dgn_name (i := 3) sc_ways_round.nd rfl (by first | exact .inl rfl | exact .inr rfl))) (ng_n 3) (by decide) (fun _ _ _ _ _ => dts_nil) (fun _ _ _ _ _ => (de_op (k_add (K := K) rfl) nx_add (dq_of (de_v 3)) (dq_of (de_v 1))))))))) (dss_one (ds_ret (de_of (dn_lc (hs := fun _ => rfl) rfl sc_ways_round.nd (own := [("place", 3), ("later", 4)]) (g := (gTup K 2 (gCons (gName 3) (gCons (gName 4) gNil)))) (dj_of (k_zip (hs := rfl) (hpl := rfl) (K := K) rfl rfl B.b_zip (da_cons (hs := rfl) (de_v 0) (da_cons (hs := rfl) (de_v 2) da_nil)))) (blkOk_by (own := [("place", 3), ("later", 4)]) (N := n_ways_round) (sc := defScope s_ways_round) (by decide +kernel)) (fun _ _ _ _ _ => (gntK (K := K) rfl rfl (by rfl) (by rfl) (tl_cons (tl_cons tl_nil)) (gns (by rfl) (dgn_name (i := 3) sc_ways_round.nd rfl (by first | exact .inl rfl | exact .inr rfl)) (gns (by rfl) (dgn_name (i := 4) sc_ways_round.nd rfl (by first | exact .inl rfl | exact .inr rfl)) dgns_nil)))) (ng_t (ng_cons (ng_n 3) (ng_cons (ng_n 4) ng_nil))) (by decide) (fun _ _ _ _ _ => dts_nil) (fun _ _ _ _ _ => (de_op o_sub nx_i2 (dq_of (de_v 4)) (dq_of (de_v 3))))))))) h
theorem cal_ways_round {h : Heap} (X : K.In h) (G : h.Ns mainGlobals mg) (A : FunAt K "ways_round" s_ways_round) (B : Bt mg)  : Callee P w K mg base "ways_round" 1 m_ways_round := by
  obtain ⟨f, fd, a, F⟩ := A
  exact ⟨f, fd, ["places", "size"], ok_ways_round F B , PySem.W.mg_of X G a, F.kp, F.binds fun _ _ _ _ _ _ us hl => match us, hl with | [_, _], _ => rfl⟩
abbrev s_evenly : Stmt := topS 87
abbrev n_evenly : List Str := ["size", "many", "found", "place"]
theorem sc_evenly : FnScope n_evenly ["size", "many"] (defScope s_evenly) := ⟨rfl, rfl, rfl, by decide +kernel, rfl, by decide +kernel, by decide +kernel⟩
def m_evenly : List D → Res D := runF 2 4 (sSeq (sSetN 2 (eLst aNil)) (sSeq (sFor (iRg1 (aCons (eV 0) aNil)) (tgN 3) (sApp 2 (eCall intD (aCons (e2 neD (e2 fdivD (e2 mulD (eV 3) (eV 1)) (eV 0)) (e2 fdivD (e2 mulD (e2 addD (eV 3) (eC (.int 1))) (eV 1)) (eV 0))) aNil)))) (sRet (eCall tupleD (aCons (eVq 2) aNil)))))
theorem ok_evenly {f : Addr} {fd : FuncData} (F : Fun K "evenly" "evenly" s_evenly f fd) (B : Bt mg)  : FnOk P w K mg base CX0 1 f fd ["size", "many"] (spD m_evenly) := by
  refine F.ok sc_evenly (fun vs H Q E h => spD_len h) (fun cdv A outer s H vs Q E hr h => ?_)
  have hu : (A.deeper (envOfC "evenly" (defScope s_evenly) s.heap.objs.size f cdv)).units + 64 < cLine := hr.units
  have hu1 : (A.deeper (envOfC "evenly" (defScope s_evenly) s.heap.objs.size f cdv)).units + 1 < cLine := hu_of hr
  have hu2 : (A.deeper (envOfC "evenly" (defScope s_evenly) s.heap.objs.size f cdv)).units + 65 < cLine := by have := hr.un; omega
  exact body_end (Nm := n_evenly) (n := 2) rfl (dss_cons (ds_setN (hs := rfl) (hf := .inl rfl) (i := 2) sc_evenly.nd rfl (by first | exact .inl rfl | exact .inr rfl) (dn_lst da_nil)) (dss_cons (ds_for (hs := fun _ => rfl) PassesOwn.never rfl (di_range1 (hs := rfl) rfl B.b_range (db_cons (hs := rfl) (dq_of (de_v 0)) db_nil)) (dg_name (i := 3) sc_evenly.nd rfl (by first | exact .inl rfl | exact .inr rfl)) (dss_one (ds_app (hN := rfl) (hv := by first | exact Or.inl rfl | exact Or.inr (Or.inl rfl)) (hb := rfl) (hf := rfl) (hl := rfl) (hs := rfl) (hp := rfl) (hsw := rfl) (hd := by decide) (hcd := by decide) 2 (he := (de_callTy (hn := by decide) (hdb := by decide) (he := rfl) (hpl := rfl) c_int nx_int rfl B.b_int (by decide +kernel) (db_cons (hs := rfl) (dq_of (de_cmp (k_ne (K := K) rfl hu) nx_ne (dq_of (de_op o_fdiv nx_fdiv (dq_of (de_op (k_mul (K := K) rfl) nx_mul (dq_of (de_v 3)) (dq_of (de_v 1)))) (dq_of (de_v 0)))) (dq_of (de_op o_fdiv nx_fdiv (dq_of (de_op (k_mul (K := K) rfl) nx_mul (dq_of (de_op (k_add (K := K) rfl) nx_add (dq_of (de_v 3)) (dq_of de_int))) (dq_of (de_v 1)))) (dq_of (de_v 0)))) (nomark _))) db_nil)))))) (dss_one (ds_ret (de_callTy (hn := by decide) (hdb := by decide) (he := rfl) (hpl := rfl) (k_tuple (K := K) rfl) nx_tuple rfl B.b_tuple (by decide +kernel) (db_cons (hs := rfl) (dq_v 2) db_nil)))))) h
theorem cal_evenly {h : Heap} (X : K.In h) (G : h.Ns mainGlobals mg) (A : FunAt K "evenly" s_evenly) (B : Bt mg)  : Callee P w K mg base "evenly" 1 m_evenly := by
  obtain ⟨f, fd, a, F⟩ := A
  exact ⟨f, fd, ["size", "many"], ok_evenly F B , PySem.W.mg_of X G a, F.kp, F.binds fun _ _ _ _ _ _ us hl => match us, hl with | [_, _], _ => rfl⟩
/-! ### the bag's defs, by hand -/
abbrev s__law_pick : Stmt := topS 90
theorem sc__law_pick : FnScope ["bag", "many", "number"] ["bag", "many"] (defScope s__law_pick) := ⟨rfl, rfl, rfl, by decide +kernel, rfl, by decide +kernel, by decide +kernel⟩
theorem ok__law_pick {f : Addr} {fd : FuncData} (F : Fun K "_law_pick" "_law_pick" s__law_pick f fd) (B : Bt mg) : FnOk P w K mg base CX0 1 f fd ["bag", "many"] (spS bagR m_pick) := by
  refine F.ok sc__law_pick (fun vs H Q E h => ?_) (fun cdv A outer s H vs Q E hr h => ?_)
  · obtain ⟨i, us, F, ds, w, rfl, k, hd, p⟩ := h
    unfold m_pick at p
    split at p
    · cases hd with
      | cons _ t => cases t; rfl
    · exact p.elim
  · obtain ⟨⟨a, g⟩, us, F, ds, b, rfl, k, hd, p⟩ := h
    unfold m_pick at p
    split at p
    · split at p
      · rename_i many _ hm
        simp only [Bool.and_eq_true, decide_eq_true_eq] at hm
        obtain ⟨hm0, hm1⟩ := hm
        cases hd with
        | cons hv ht =>
          cases ht
          cases hv
          obtain ⟨ha, hg, hl⟩ := k.res
          have fin : ∀ (b' : Bag) (H' : Hp) (r : Int), pickB many b = (r, b') → BagAt a g b' H' → (∀ q o, q ≠ a → q ≠ g → H q = some o → H' q = some o) → Q (.int r) H' := fun b' H' r e hb keep => by
            obtain ⟨e1, k1⟩ := bag_step k hb keep
            rw [e] at p
            exact p F H' e1 k1 (.int r) (.int r)
          have nag : g ≠ a := ne_of hg ha (by
            cases b.gs with
            | nil => intro z; cases z
            | cons x r => intro z; simp at z)
          refine ⟨_, pss_cons (ps_if (pt_cmpR op_eq (pe_ix ix_list (pv 0) pe_int (fun _ _ => rfl)) pe_int (nomark _)) (pss_one (ps_ret pe_int)) pss_nil)
            (pss_cons (ps_if (pt_cmpR op_gt (pe_callB call_len_seq (by rfl) B.b_len PySem.boot_len (pa_cons (pe_ix ix_list (pv 0) pe_int (fun _ _ => rfl)) pa_nil)) pe_int (nomark _))
              (pss_cons (ps_set (i := 2) sc__law_pick.nd rfl (.inl rfl) (pe_ix ix_list (pe_ix ix_list (pv 0) pe_int (fun _ _ => rfl)) pe_int (fun _ _ => rfl)))
              (pss_cons (ps_asg (pe_op op_fdiv (pv 2) (pv 1)) (pg_sub (pe_ix ix_list (pv 0) pe_int (fun _ _ => rfl)) pe_int set_list))
              (pss_cons (ps_if (pt_cmpR op_lt (pv 2) (pv 1) (nomark _)) (pss_one (ps_expr (pe_bm PySem.F.plainAttrs_list PySem.F.slot_list_pop PySem.F.type_list_pop mt_popAt (pe_ix ix_list (pv 0) pe_int (fun _ _ => rfl)) (pa_cons pe_int pa_nil)))) pss_nil)
              (pss_one (ps_ret (pe_op op_mod (pe_callTy call_int1 (by rfl) B.b_int (by decide +kernel) (pa_cons (pv 2) pa_nil)) (pv 1))))))) pss_nil)
            (pss_cons (ps_asg (pe_op op_add (pe_ix ix_list (pv 0) pe_int (fun _ _ => rfl)) pe_int) (pg_sub (pv 0) pe_int set_list))
            (pss_cons (ps_set (i := 2) sc__law_pick.nd rfl (.inl rfl) (pe_op op_mod (pe_callTy call_int1 (by rfl) B.b_int (by decide +kernel) (pa_cons (pe_op op_add (pe_op op_mul (pe_op op_add (pe_ix ix_list (pv 0) pe_int (fun _ _ => rfl)) (pe_op op_mul pe_int (pe_ix ix_list (pv 0) pe_int (fun _ _ => rfl)))) pe_int) pe_int) pa_nil)) pe_int))
            (pss_cons (ps_set (i := 2) sc__law_pick.nd rfl (.inl rfl) (pe_op op_mod (pe_callTy call_int1 (by rfl) B.b_int (by decide +kernel) (pa_cons (pe_op op_add (pe_op op_mul (pv 2) (pe_op op_add (pe_op op_fdiv (pv 2) pe_int) pe_int)) (pe_ix ix_list (pv 0) pe_int (fun _ _ => rfl))) pa_nil)) pe_int))
            (pss_cons (ps_asg (pe_op op_mod (pe_callTy call_int1 (by rfl) B.b_int (by decide +kernel) (pa_cons (pe_op op_add (pe_ix ix_list (pv 0) pe_int (fun _ _ => rfl)) (pv 2)) pa_nil)) pe_int) (pg_sub (pv 0) pe_int set_list))
            (pss_one (ps_ret (pe_op op_mod (pe_callTy call_int1 (by rfl) B.b_int (by decide +kernel) (pa_cons (pe_op op_fdiv (pv 2) pe_int) pa_nil)) (pv 1))))))))), ?_⟩
          -- bag[2] == 0
          refine ⟨_, rfl, a, _, 2, _, rfl, rfl, SqL.of ha, atI_nat (j := 2) rfl, rfl, _, rfl, ite2 (fun h0 => ?_) (fun h0 => ?_)⟩
          · have e0 : b.n = 0 := V.int.inj (of_decide_eq_true h0)
            exact fin b H 0 (by unfold pickB; rw [if_pos e0]) ⟨ha, hg, hl⟩ fun _ _ _ _ z => z
          have n0 : b.n ≠ 0 := fun e => h0 (decide_eq_true (by rw [e]))
          -- len(bag[0]) > 0
          refine ⟨_, rfl, a, _, 0, _, rfl, rfl, SqL.of ha, atI_nat (j := 0) rfl, g, _, rfl, .inl (SqL.of hg), _, _, rfl, rfl, _, rfl, ite2 (fun h1 => ?_) (fun h1 => ?_)⟩
          · have h1' : 0 < b.gs.length := by
              have z := of_decide_eq_true h1
              rw [List.length_map] at z
              omega
            obtain ⟨x, r, eg⟩ : ∃ x r, b.gs = x :: r := by
              cases e : b.gs with
              | nil => rw [e] at h1'; exact absurd h1' (Nat.lt_irrefl _)
              | cons x r => exact ⟨x, r, rfl⟩
            rw [eg] at hg hl
            have hx : (List.map V.int (x :: r))[0]? = some (.int x) := rfl
            -- number = bag[0][0]
            refine ⟨_, rfl, a, _, 0, _, rfl, rfl, SqL.of ha, atI_nat (j := 0) rfl, g, _, 0, _, rfl, rfl, SqL.of hg, atI_nat (j := 0) hx, ?_⟩
            -- bag[0][0] = number // many
            refine ⟨_, rfl, _, rfl, x, many, rfl, rfl, ⟨hm0, by omega⟩, _, rfl, a, _, 0, _, rfl, rfl, SqL.of ha, atI_nat (j := 0) rfl, g, _, 0, 0, rfl, rfl, hg, by unfold ixN; rw [if_pos (by decide), if_pos (by simp)]; rfl, ?_⟩
            have ha2 : upd H g (.lst ((List.map V.int (x :: r)).set 0 (.int (x / many)))) a = some (.lst [.ref g, .int b.seed, .int b.n, .int b.cnt]) := by rw [upd_ne nag.symm]; exact ha
            -- if number < many
            refine ⟨_, rfl, _, rfl, x, many, rfl, rfl, _, rfl, ite2 (fun h2 => ?_) (fun h2 => ?_)⟩
            · have h2' := of_decide_eq_true h2
              refine ⟨_, rfl, a, _, 0, _, rfl, rfl, SqL.of ha2, atI_nat (j := 0) rfl, .inl ⟨rfl, _, SqL.of upd_same⟩, g, _, 0, 0, _, rfl, rfl, upd_same, by decide, by decide, by simp [seqIndex?], rfl, ?_⟩
              refine ⟨_, rfl, .inl ⟨_, rfl, _, rfl, x, many, rfl, rfl, hm0, ?_⟩⟩
              refine fin { b with gs := r } _ _ (by unfold pickB; rw [if_neg n0, eg]; simp only; rw [if_pos h2']) ⟨?_, ?_, by simp at hl ⊢; omega⟩ (fun q o n1 n2 z => ?_)
              · rw [upd_ne nag.symm]; exact ha2
              · rw [upd_same]; rfl
              · rw [upd_ne n2, upd_ne n2]; exact z
            · have h2' := of_decide_eq_false (Bool.eq_false_iff.mpr h2)
              refine ⟨_, rfl, .inl ⟨_, rfl, _, rfl, x, many, rfl, rfl, hm0, ?_⟩⟩
              refine fin { b with gs := (x / many) :: r } _ _ (by unfold pickB; rw [if_neg n0, eg]; simp only; rw [if_neg h2']) ⟨ha2, ?_, by simpa using hl⟩ (fun q o n1 n2 z => ?_)
              · rw [upd_same]; rfl
              · rw [upd_ne n2]; exact z
          · have eg : b.gs = [] := by
              cases e : b.gs with
              | nil => rfl
              | cons x r =>
                rw [e] at h1
                exact (h1 (decide_eq_true (by simp))).elim
            -- bag[3] = bag[3] + 1
            refine ⟨_, rfl, a, _, 3, _, rfl, rfl, SqL.of ha, atI_nat (j := 3) rfl, _, _, rfl, rfl, _, rfl, a, _, 3, 3, rfl, rfl, ha, rfl, ?_⟩
            generalize hH1 : upd H a (.lst ([V.ref g, .int b.seed, .int b.n, .int b.cnt].set 3 (.int (b.cnt + 1)))) = H1
            have ha1 : H1 a = some (.lst [.ref g, .int b.seed, .int b.n, .int (b.cnt + 1)]) := by rw [← hH1, upd_same]; rfl
            have hg1 : H1 g = some (.lst (b.gs.map V.int)) := by rw [← hH1, upd_ne nag]; exact hg
            have hk1 : ∀ q o, q ≠ a → q ≠ g → H q = some o → H1 q = some o := fun q o n1 _ z => by rw [← hH1, upd_ne n1]; exact z
            -- number = ..
            refine ⟨_, rfl, a, _, 1, _, rfl, rfl, SqL.of ha1, atI_nat (j := 1) rfl, _, rfl, a, _, 3, _, rfl, rfl, SqL.of ha1, atI_nat (j := 3) rfl, _, _, rfl, rfl, .inl ⟨by decide, by decide⟩, _, _, rfl, rfl, _, _, rfl, rfl, .inr ⟨by decide, by decide⟩, _, _, rfl, rfl, .inl ⟨_, rfl, _, _, rfl, rfl, by show (0 : Int) < 2147483647; decide, ?_⟩⟩
            obtain ⟨x, hx⟩ : ∃ x, ((b.seed + 7919 * (b.cnt + 1)) * 48271 + 11) % 2147483647 = x := ⟨_, rfl⟩
            have hx0 : 0 ≤ x := by rw [← hx]; exact Int.emod_nonneg _ (by decide)
            have hx1 : x < 2147483647 := by rw [← hx]; exact Int.emod_lt_of_pos _ (by decide)
            refine ⟨_, rfl, _, rfl, _, _, rfl, rfl, ⟨by decide, by decide⟩, _, _, rfl, rfl, _, _, rfl, rfl, .inl ⟨by omega, by omega⟩, _, rfl, a, _, 3, _, rfl, rfl, SqL.of ha1, atI_nat (j := 3) rfl, _, _, rfl, rfl, .inl ⟨_, rfl, _, _, rfl, rfl, by show (0 : Int) < 2147483399; decide, ?_⟩⟩
            -- bag[1] = ..
            refine ⟨_, rfl, a, _, 1, _, rfl, rfl, SqL.of ha1, atI_nat (j := 1) rfl, _, rfl, _, _, rfl, rfl, .inl ⟨_, rfl, _, _, rfl, rfl, by show (0 : Int) < 2147483629; decide, _, rfl, a, _, 1, 1, rfl, rfl, ha1, rfl, ?_⟩⟩
            refine ⟨_, rfl, _, _, rfl, rfl, ⟨by decide, by decide⟩, .inl ⟨_, rfl, _, rfl, _, _, rfl, rfl, hm0, ?_⟩⟩
            refine fin (pickB many b).2 _ _ (by unfold pickB; rw [if_neg n0, eg]) ⟨?_, ?_, by unfold pickB; rw [if_neg n0, eg]; exact Nat.zero_le _⟩ (fun q o n1 n2 z => ?_)
            · rw [upd_same]; unfold pickB; rw [if_neg n0, eg]; rfl
            · rw [upd_ne nag]; unfold pickB; rw [if_neg n0, eg]; rw [eg] at hg1; exact hg1
            · rw [upd_ne n1]; exact hk1 q o n1 n2 z
      · exact p.elim
    · exact p.elim
abbrev s__law_bag : Stmt := topS 89
theorem sc__law_bag : FnScope ["script", "great", "seed", "cell"] ["script"] (defScope s__law_bag) := ⟨rfl, rfl, rfl, by decide +kernel, rfl, by decide +kernel, by decide +kernel⟩
def spBag (K : PySem.W.Frag) : Sp := fun vs H Q _ => ∃ (a : Addr) (ns : List Int), vs = [.ref a] ∧ SqL K H a (ns.map V.int) ∧ ns.length ≤ 63 ∧ ∀ H' p g b, Same H H' → H p = none → H g = none → BagAt p g b H' → Q (.ref p) H'
theorem cut_map (ns : List Int) (lo hi : Option Int) : cutV (ns.map V.int) lo hi = (cutL ns lo hi).map V.int := by
  unfold cutV cutL
  rw [List.length_map, List.map_take, List.map_drop]
theorem cut_len {α : Type} (ns : List α) (lo hi : Option Int) : (cutL ns lo hi).length ≤ ns.length := by
  unfold cutL
  rw [List.length_take, List.length_drop]
  omega
theorem map_at {ns : List Int} {i : Nat} {x : V} (h : (ns.map V.int)[i]? = some x) : ∃ n, x = .int n := by
  rw [List.getElem?_map] at h
  cases z : ns[i]? with
  | none => rw [z] at h; cases h
  | some n => rw [z] at h; exact ⟨n, (Option.some.inj h).symm⟩
theorem ok__law_bag {f : Addr} {fd : FuncData} (F : Fun K "_law_bag" "_law_bag" s__law_bag f fd) (B : Bt mg) : FnOk P w K mg base CX0 1 f fd ["script"] (spBag K) := by
  refine F.ok sc__law_bag (fun vs H Q E h => ?_) (fun cdv A outer s H vs Q E hr h => ?_)
  · obtain ⟨a, ns, rfl, _⟩ := h
    rfl
  · obtain ⟨a, ns, rfl, hS, hn, q⟩ := h
    refine ⟨_, pss_cons (ps_setLc (i := 1) (own := [("cell", 3)]) (g := gName 3) rfl sc__law_bag.nd rfl rfl (sw_true rfl rfl rfl (by decide +kernel)) (pi_list (pe_slice sl_list (pv 0) po_none (po_some pe_int))) (blkOk_by (own := [("cell", 3)]) (N := ["script", "great", "seed", "cell"]) (sc := defScope s__law_bag) (by decide +kernel))
          (fun _ _ _ _ _ => pg_name (i := 3) sc__law_bag.nd rfl (.inl rfl))
          (fun _ _ _ _ _ => pts_one (pt_cmpR op_ge (pe_callB call_abs (by rfl) B.b_abs (by decide +kernel) (pa_cons (pe_callTy call_int1 (by rfl) B.b_int (by decide +kernel) (pa_cons (pv 3) pa_nil)) pa_nil)) (pe_op op_pow pe_int pe_int) (nomark _)))
          (fun _ _ _ _ _ => pe_callB call_abs (by rfl) B.b_abs (by decide +kernel) (pa_cons (pe_callTy call_int1 (by rfl) B.b_int (by decide +kernel) (pa_cons (pv 3) pa_nil)) pa_nil)))
      (pss_cons (ps_set (i := 2) sc__law_bag.nd rfl (.inl rfl) pe_int)
      (pss_cons (ps_for PassesOwn.never rfl (pi_list (pe_slice sl_list (pv 0) po_none (po_some pe_int))) (pg_name (i := 3) sc__law_bag.nd rfl (.inl rfl))
        (pss_one (ps_set (i := 2) sc__law_bag.nd rfl (.inl rfl) (pe_op op_mod (pe_callTy call_int1 (by rfl) B.b_int (by decide +kernel) (pa_cons
          (pe_op op_add (pe_op op_add (pe_op op_add (pe_op op_mul (pv 2) pe_int) (pe_op op_mul (pe_callB call_abs (by rfl) B.b_abs (by decide +kernel) (pa_cons (pe_callTy call_int1 (by rfl) B.b_int (by decide +kernel) (pa_cons (pv 3) pa_nil)) pa_nil)) pe_int))
            (pe_callTy call_int1 (by rfl) B.b_int (by decide +kernel) (pa_cons (pe_cmpR op_lt (pe_callTy call_int1 (by rfl) B.b_int (by decide +kernel) (pa_cons (pv 3) pa_nil)) pe_int (nomark _)) pa_nil))) pe_int) pa_nil)) pe_int))))
      (pss_one (ps_ret (pe_lst (pa_cons (pv 1) (pa_cons (pv 2) (pa_cons (pe_callB call_len_seq (by rfl) B.b_len PySem.boot_len (pa_cons (pv 0) pa_nil)) (pa_cons pe_int pa_nil))))))))), ?_⟩
    -- great
    refine ⟨_, rfl, 63, rfl, a, _, rfl, hS, fun p np => ⟨p, rfl, ⟨_, SqL.of upd_same⟩, fun L hL => ?_⟩⟩
    rw [cut_map] at hL ⊢
    have hml : (cutL ns none (some 63)).length ≤ 63 := Nat.le_trans (cut_len ns none (some 63)) hn
    have smp : ∀ (o : HO), Same H (upd H p o) := fun o b u e => by rw [upd_ne (ne_of_none e np)]; exact e
    have nLp : p ≠ L := fun e => by rw [← e, upd_same] at hL; cases hL
    have hL0 : H L = none := by rw [upd_ne nLp.symm] at hL; exact hL
    refine lc_list (K := K) (a := p) (xs := (cutL ns none (some 63)).map V.int) (fun i H2 => ∃ gs : List Int, H2 L = some (.lst (gs.map V.int)) ∧ gs.length ≤ i ∧ i ≤ 63 ∧ H2 p = some (.lst ((cutL ns none (some 63)).map V.int)) ∧ Same H H2) ?_ (fun i H2 _ hP => SqL.of hP.choose_spec.2.2.2.1) (fun i x H2 hx hP => ?_) (fun H2 hP => ?_)
    · exact ⟨[], upd_same, Nat.le_refl _, by omega, by rw [upd_ne nLp]; exact upd_same, fun b o e => by rw [upd_ne (ne_of_none e hL0)]; exact smp _ b o e⟩
    · obtain ⟨gs, h1, h2, hi, h3, h4⟩ := hP
      obtain ⟨m, rfl⟩ := map_at hx
      have hi2 : i + 1 ≤ 63 := by
        have := (List.getElem?_eq_some_iff.mp hx).1
        rw [List.length_map] at this
        omega
      refine ⟨rfl, _, rfl, .inl ⟨m, rfl, m, rfl, 10, 18, rfl, rfl, ⟨by decide, by decide, by decide⟩, _, _, rfl, rfl, _, rfl, ite2 (fun _ => ?_) (fun _ => ?_)⟩⟩
      · refine ⟨_, rfl, .inl ⟨m, rfl, m, rfl, gs.map V.int, h1, by rw [List.length_map]; exact line_lt (by omega), gs ++ [if m < 0 then -m else m], ?_, by simp; omega, hi2, ?_, fun b o e => ?_⟩⟩
        · rw [upd_same, List.map_append]; rfl
        · rw [upd_ne nLp]; exact h3
        · rw [upd_ne (ne_of_none e hL0)]; exact h4 b o e
      · exact ⟨gs, h1, Nat.le_succ_of_le h2, hi2, h3, h4⟩
    · obtain ⟨gs, h1, h2, hi, h3, h4⟩ := hP
      have hS2 : SqL K H2 a (ns.map V.int) := h4.seq hS
      -- seed, the loop
      refine ⟨_, rfl, 63, rfl, a, _, rfl, hS2, fun c nc => ⟨c, rfl, ⟨_, SqL.of upd_same⟩, ?_⟩⟩
      rw [cut_map]
      have sm2 : ∀ (o : HO), Same H2 (upd H2 c o) := fun o b u e => by rw [upd_ne (ne_of_none e nc)]; exact e
      refine for_list (K := K) (a := c) (xs := (cutL ns none (some 63)).map V.int) (fun i σ H3 => ∃ s x3, σ = [some (.ref a), some (.ref L), some (.int s), x3] ∧ H3 = upd H2 c (.lst ((cutL ns none (some 63)).map V.int))) ⟨_, _, rfl, rfl⟩ (fun i σ H3 _ hP => by obtain ⟨s, x3, rfl, rfl⟩ := hP; exact SqL.of upd_same) (fun i x σ H3 hx hP => ?_) (fun σ H3 hP => ?_)
      · obtain ⟨s, x3, rfl, rfl⟩ := hP
        obtain ⟨m, rfl⟩ := map_at hx
        refine ⟨_, rfl, _, _, rfl, rfl, .inr ⟨by decide, by decide⟩, _, rfl, .inl ⟨m, rfl, m, rfl, _, _, rfl, rfl, .inr ⟨by decide, by decide⟩, _, _, rfl, rfl, _, rfl, .inl ⟨m, rfl, _, _, rfl, rfl, .inr ⟨_, rfl, _, _, rfl, rfl, _, _, rfl, rfl, .inl ⟨_, rfl, _, _, rfl, rfl, by show (0 : Int) < 2147483629; decide, _, _, rfl, rfl⟩⟩⟩⟩⟩
      · obtain ⟨s, x3, rfl, rfl⟩ := hP
        refine ⟨_, rfl, _, rfl, _, rfl, a, _, rfl, .inl ((sm2 _).seq hS2), by show 4 ≤ sizeLine; rw [sizeLine_eq]; omega, fun z nz => ?_⟩
        have zn : ∀ {b : Addr} {o : HO}, H2 b = some o → b ≠ z := fun {b o} e => ne_of_none (sm2 _ b o e) nz
        refine q _ z L ⟨gs, s, ((ns.map V.int).length : Nat), 0⟩ (fun b o e => ?_) ?_ hL0 ⟨?_, ?_, by show gs.length ≤ 1000; rw [List.length_map] at h2; omega⟩
        · rw [upd_ne (zn (h4 b o e))]; exact sm2 _ b o (h4 b o e)
        · cases e : H z with
          | none => rfl
          | some o => exact absurd rfl (zn (h4 z o e))
        · rw [upd_same]
        · rw [upd_ne (zn h1)]; exact sm2 _ L _ h1
theorem cal__law_pick {h : Heap} (X : K.In h) (G : h.Ns mainGlobals mg) (A : FunAt K "_law_pick" s__law_pick) (B : Bt mg) : CalleeS P w K mg base "_law_pick" 1 bagR m_pick := by
  obtain ⟨f, fd, a, F⟩ := A
  exact ⟨f, fd, ["bag", "many"], ok__law_pick F B, PySem.W.mg_of X G a, F.kp, F.binds fun _ _ _ _ _ _ us hl => match us, hl with | [_, _], _ => rfl⟩
def m__law_pick : List D → Bag → Res (D × Bag) := m_pick
def spLaw (K : PySem.W.Frag) : Sp := fun vs H Q _ => ∃ (a : Addr) (ns : List Int), vs = [.ref a] ∧ SqL K H a (ns.map V.int) ∧ ns.length ≤ 63 ∧ ∀ H', Q (.bl true) H'

abbrev s__law_common : Stmt := topS 92
abbrev n__law_common : List Str := ["one", "other"]
theorem sc__law_common : FnScope n__law_common ["one", "other"] (defScope s__law_common) := ⟨rfl, rfl, rfl, by decide +kernel, rfl, by decide +kernel, by decide +kernel⟩
def m__law_common : List D → Res D := runF 2 2 (sSeq (sWhile 1000 (tst (e2 neD (eV 1) (eC (.int 0)))) (sPar 0 1 (mFr (eV 1) (mFr (e2 modD (eCall intD (aCons (eV 0) aNil)) (eV 1)) mNil)))) (sRet (eV 0)))
theorem ok__law_common {f : Addr} {fd : FuncData} (F : Fun K "_law_common" "_law_common" s__law_common f fd) (B : Bt mg)  : FnOk P w K mg base CX0 1 f fd ["one", "other"] (spD m__law_common) := by
  refine F.ok sc__law_common (fun vs H Q E h => spD_len h) (fun cdv A outer s H vs Q E hr h => ?_)
  have hu : (A.deeper (envOfC "_law_common" (defScope s__law_common) s.heap.objs.size f cdv)).units + 64 < cLine := hr.units
  have hu1 : (A.deeper (envOfC "_law_common" (defScope s__law_common) s.heap.objs.size f cdv)).units + 1 < cLine := hu_of hr
  have hu2 : (A.deeper (envOfC "_law_common" (defScope s__law_common) s.heap.objs.size f cdv)).units + 65 < cLine := by have := hr.un; omega
  exact body_end (Nm := n__law_common) (n := 2) rfl (dss_cons (ds_while 1000 PassesOwn.never (dt_cmp (k_ne (K := K) rfl hu) nx_ne (dq_of (de_v 1)) (dq_of de_int) (nomark _)) (dss_one (ds_par (hs := rfl) (i := 0) (j := 1) rfl sc__law_common.nd rfl rfl (by decide) rfl rfl (dm_fr (hs := rfl) (de_v 1) (dm_fr (hs := rfl) (de_op o_mod nx_mod (dq_of (de_callTy (hn := by decide) (hdb := by decide) (he := rfl) (hpl := rfl) c_int nx_int rfl B.b_int (by decide +kernel) (db_cons (hs := rfl) (dq_of (de_v 0)) db_nil))) (dq_of (de_v 1))) dm_nil)) (by rfl)))) (dss_one (ds_ret (de_v 0)))) h
theorem cal__law_common {h : Heap} (X : K.In h) (G : h.Ns mainGlobals mg) (A : FunAt K "_law_common" s__law_common) (B : Bt mg)  : Callee P w K mg base "_law_common" 1 m__law_common := by
  obtain ⟨f, fd, a, F⟩ := A
  exact ⟨f, fd, ["one", "other"], ok__law_common F B , PySem.W.mg_of X G a, F.kp, F.binds fun _ _ _ _ _ _ us hl => match us, hl with | [_, _], _ => rfl⟩
abbrev s_is_within : Stmt := topS 2
abbrev n_is_within : List Str := ["thing", "least", "most"]
theorem sc_is_within : FnScope n_is_within ["thing", "least", "most"] (defScope s_is_within) := ⟨rfl, rfl, rfl, by decide +kernel, rfl, by decide +kernel, by decide +kernel⟩
def m_is_within : List D → Res D := runF 3 3 (sRet (eAnd (eFn (fun ds => noX (m_is_integer ds)) (aCons (eV 0) aNil)) (eChain leD leD (eV 1) (eV 0) (eV 2))))
theorem ok_is_within {f : Addr} {fd : FuncData} (F : Fun K "is_within" "is_within" s_is_within f fd) (B : Bt mg) (C_is_integer : Callee P w K mg base "is_integer" 1 m_is_integer) : FnOk P w K mg base CX0 2 f fd ["thing", "least", "most"] (spD m_is_within) := by
  refine F.ok sc_is_within (fun vs H Q E h => spD_len h) (fun cdv A outer s H vs Q E hr h => ?_)
  have hu : (A.deeper (envOfC "is_within" (defScope s_is_within) s.heap.objs.size f cdv)).units + 64 < cLine := hr.units
  have hu1 : (A.deeper (envOfC "is_within" (defScope s_is_within) s.heap.objs.size f cdv)).units + 1 < cLine := hu_of hr
  have hu2 : (A.deeper (envOfC "is_within" (defScope s_is_within) s.heap.objs.size f cdv)).units + 65 < cLine := by have := hr.un; omega
  exact body_end (Nm := n_is_within) (n := 3) rfl (dss_one (ds_ret (de_and (de_callC (hdb := by decide) (he := rfl) (hpl := rfl) C_is_integer (hr.mono (by decide)) rfl (da_cons (hs := rfl) (de_v 0) da_nil)) (de_one (de_chain (hm := by with_unfolding_all rfl) o_le nx_c2 o_le nx_c2 (dq_of (de_v 1)) (dq_of (de_v 0)) (dq_of (de_v 2))))))) h
theorem cal_is_within {h : Heap} (X : K.In h) (G : h.Ns mainGlobals mg) (A : FunAt K "is_within" s_is_within) (B : Bt mg) (C_is_integer : Callee P w K mg base "is_integer" 1 m_is_integer) : Callee P w K mg base "is_within" 2 m_is_within := by
  obtain ⟨f, fd, a, F⟩ := A
  exact ⟨f, fd, ["thing", "least", "most"], ok_is_within F B C_is_integer, PySem.W.mg_of X G a, F.kp, F.binds fun _ _ _ _ _ _ us hl => match us, hl with | [_, _, _], _ => rfl⟩
abbrev s_landings : Stmt := topS 25
abbrev n_landings : List Str := ["throws", "place", "throw"]
theorem sc_landings : FnScope n_landings ["throws"] (defScope s_landings) := ⟨rfl, rfl, rfl, by decide +kernel, rfl, by decide +kernel, by decide +kernel⟩
def m_landings : List D → Res D := runF 1 3 (sRet (eLc (iEnumA (eV 0)) [1, 2] (tgT (tgCons (tgN 1) (tgCons (tgN 2) tgNil))) tYesF (eFn (fun ds => noX (m_beat_of ds)) (aCons (e2 addD (eV 1) (eV 2)) (aCons (eCall lenD (aCons (eV 0) aNil)) aNil)))))
theorem ok_landings {f : Addr} {fd : FuncData} (F : Fun K "landings" "landings" s_landings f fd) (B : Bt mg) (C_beat_of : Callee P w K mg base "beat_of" 1 m_beat_of) : FnOk P w K mg base CX0 2 f fd ["throws"] (spD m_landings) := by
  refine F.ok sc_landings (fun vs H Q E h => spD_len h) (fun cdv A outer s H vs Q E hr h => ?_)
  have hu : (A.deeper (envOfC "landings" (defScope s_landings) s.heap.objs.size f cdv)).units + 64 < cLine := hr.units
  have hu1 : (A.deeper (envOfC "landings" (defScope s_landings) s.heap.objs.size f cdv)).units + 1 < cLine := hu_of hr
  have hu2 : (A.deeper (envOfC "landings" (defScope s_landings) s.heap.objs.size f cdv)).units + 65 < cLine := by have := hr.un; omega
  exact body_end (Nm := n_landings) (n := 1) rfl (dss_one (ds_ret (de_of (dn_lc (hs := fun _ => rfl) rfl sc_landings.nd (own := [("place", 1), ("throw", 2)]) (g := (gTup K 2 (gCons (gName 1) (gCons (gName 2) gNil)))) (dj_of (k_enumA (hs := rfl) (hs2 := rfl) (K := K) rfl rfl B.b_enumerate (de_v 0))) (blkOk_by (own := [("place", 1), ("throw", 2)]) (N := n_landings) (sc := defScope s_landings) (by decide +kernel)) (fun _ _ _ _ _ => (gntK (K := K) rfl rfl (by rfl) (by rfl) (tl_cons (tl_cons tl_nil)) (gns (by rfl) (dgn_name (i := 1) sc_landings.nd rfl (by first | exact .inl rfl | exact .inr rfl)) (gns (by rfl) (dgn_name (i := 2) sc_landings.nd rfl (by first | exact .inl rfl | exact .inr rfl)) dgns_nil)))) (ng_t (ng_cons (ng_n 1) (ng_cons (ng_n 2) ng_nil))) (by decide) (fun _ _ _ _ _ => dts_nil) (fun _ _ _ _ _ => (de_callC (hdb := by decide) (he := rfl) (hpl := rfl) C_beat_of (hr.mono (by decide)) rfl (da_cons (hs := rfl) (de_op (k_add (K := K) rfl) nx_add (dq_of (de_v 1)) (dq_of (de_v 2))) (da_cons (hs := rfl) (de_callB (hn := by decide) (hdb := by decide) (he := rfl) (hpl := rfl) (k_len (K := K) rfl) nx_len rfl B.b_len (by decide +kernel) (db_cons (hs := rfl) (dq_of (de_v 0)) db_nil)) da_nil)))))))) h
theorem cal_landings {h : Heap} (X : K.In h) (G : h.Ns mainGlobals mg) (A : FunAt K "landings" s_landings) (B : Bt mg) (C_beat_of : Callee P w K mg base "beat_of" 1 m_beat_of) : Callee P w K mg base "landings" 2 m_landings := by
  obtain ⟨f, fd, a, F⟩ := A
  exact ⟨f, fd, ["throws"], ok_landings F B C_beat_of, PySem.W.mg_of X G a, F.kp, F.binds fun _ _ _ _ _ _ us hl => match us, hl with | [_], _ => rfl⟩
abbrev s_raw_done : Stmt := topS 46
abbrev n_raw_done : List Str := ["commands", "stand", "word", "number"]
theorem sc_raw_done : FnScope n_raw_done ["commands", "stand", "word"] (defScope s_raw_done) := ⟨rfl, rfl, rfl, by decide +kernel, rfl, by decide +kernel, by decide +kernel⟩
def m_raw_done : List D → Res D := runF 3 4 (sSeq (sFor (iSeq (eV 2)) (tgN 3) (sSet 1 (eFn (fun ds => noX (m_moved_by ds)) (aCons (e2 ixD (eV 0) (eV 3)) (aCons (eV 1) aNil))))) (sRet (eV 1)))
theorem ok_raw_done {f : Addr} {fd : FuncData} (F : Fun K "raw_done" "raw_done" s_raw_done f fd) (B : Bt mg) (C_moved_by : Callee P w K mg base "moved_by" 1 m_moved_by) : FnOk P w K mg base CX0 2 f fd ["commands", "stand", "word"] (spD m_raw_done) := by
  refine F.ok sc_raw_done (fun vs H Q E h => spD_len h) (fun cdv A outer s H vs Q E hr h => ?_)
  have hu : (A.deeper (envOfC "raw_done" (defScope s_raw_done) s.heap.objs.size f cdv)).units + 64 < cLine := hr.units
  have hu1 : (A.deeper (envOfC "raw_done" (defScope s_raw_done) s.heap.objs.size f cdv)).units + 1 < cLine := hu_of hr
  have hu2 : (A.deeper (envOfC "raw_done" (defScope s_raw_done) s.heap.objs.size f cdv)).units + 65 < cLine := by have := hr.un; omega
  exact body_end (Nm := n_raw_done) (n := 3) rfl (dss_cons (ds_for (hs := fun _ => rfl) PassesOwn.never rfl (k_seq (K := K) rfl (de_v 2)) (dg_name (i := 3) sc_raw_done.nd rfl (by first | exact .inl rfl | exact .inr rfl)) (dss_one (ds_set (hs := rfl) (hf := .inl rfl) (i := 1) sc_raw_done.nd rfl (by first | exact .inl rfl | exact .inr rfl) (de_callC (hdb := by decide) (he := rfl) (hpl := rfl) C_moved_by (hr.mono (by decide)) rfl (da_cons (hs := rfl) (k_ix (hs := fun _ _ => rfl) (K := K) rfl (dq_of (de_v 0)) (dq_of (de_v 3))) (da_cons (hs := rfl) (de_v 1) da_nil)))))) (dss_one (ds_ret (de_v 1)))) h
theorem cal_raw_done {h : Heap} (X : K.In h) (G : h.Ns mainGlobals mg) (A : FunAt K "raw_done" s_raw_done) (B : Bt mg) (C_moved_by : Callee P w K mg base "moved_by" 1 m_moved_by) : Callee P w K mg base "raw_done" 2 m_raw_done := by
  obtain ⟨f, fd, a, F⟩ := A
  exact ⟨f, fd, ["commands", "stand", "word"], ok_raw_done F B C_moved_by, PySem.W.mg_of X G a, F.kp, F.binds fun _ _ _ _ _ _ us hl => match us, hl with | [_, _, _], _ => rfl⟩
abbrev s_beside : Stmt := topS 48
abbrev n_beside : List Str := ["commands", "stand", "number", "order"]
theorem sc_beside : FnScope n_beside ["commands", "stand"] (defScope s_beside) := ⟨rfl, rfl, rfl, by decide +kernel, rfl, by decide +kernel, by decide +kernel⟩
def m_beside : List D → Res D := runF 2 4 (sRet (eLc (iEnumA (eV 0)) [2, 3] (tgT (tgCons (tgN 2) (tgCons (tgN 3) tgNil))) tYesF (eTup (aCons (eV 2) (aCons (eFn (fun ds => noX (m_moved_by ds)) (aCons (eV 3) (aCons (eV 1) aNil))) aNil)))))
theorem ok_beside {f : Addr} {fd : FuncData} (F : Fun K "beside" "beside" s_beside f fd) (B : Bt mg) (C_moved_by : Callee P w K mg base "moved_by" 1 m_moved_by) : FnOk P w K mg base CX0 2 f fd ["commands", "stand"] (spD m_beside) := by
  refine F.ok sc_beside (fun vs H Q E h => spD_len h) (fun cdv A outer s H vs Q E hr h => ?_)
  have hu : (A.deeper (envOfC "beside" (defScope s_beside) s.heap.objs.size f cdv)).units + 64 < cLine := hr.units
  have hu1 : (A.deeper (envOfC "beside" (defScope s_beside) s.heap.objs.size f cdv)).units + 1 < cLine := hu_of hr
  have hu2 : (A.deeper (envOfC "beside" (defScope s_beside) s.heap.objs.size f cdv)).units + 65 < cLine := by have := hr.un; omega
  exact body_end (Nm := n_beside) (n := 2) rfl (dss_one (ds_ret (de_of (dn_lc (hs := fun _ => rfl) rfl sc_beside.nd (own := [("number", 2), ("order", 3)]) (g := (gTup K 2 (gCons (gName 2) (gCons (gName 3) gNil)))) (dj_of (k_enumA (hs := rfl) (hs2 := rfl) (K := K) rfl rfl B.b_enumerate (de_v 0))) (blkOk_by (own := [("number", 2), ("order", 3)]) (N := n_beside) (sc := defScope s_beside) (by decide +kernel)) (fun _ _ _ _ _ => (gntK (K := K) rfl rfl (by rfl) (by rfl) (tl_cons (tl_cons tl_nil)) (gns (by rfl) (dgn_name (i := 2) sc_beside.nd rfl (by first | exact .inl rfl | exact .inr rfl)) (gns (by rfl) (dgn_name (i := 3) sc_beside.nd rfl (by first | exact .inl rfl | exact .inr rfl)) dgns_nil)))) (ng_t (ng_cons (ng_n 2) (ng_cons (ng_n 3) ng_nil))) (by decide) (fun _ _ _ _ _ => dts_nil) (fun _ _ _ _ _ => (de_tup (da_cons (hs := rfl) (de_v 2) (da_cons (hs := rfl) (de_callC (hdb := by decide) (he := rfl) (hpl := rfl) C_moved_by (hr.mono (by decide)) rfl (da_cons (hs := rfl) (de_v 3) (da_cons (hs := rfl) (de_v 1) da_nil))) da_nil)))))))) h
theorem cal_beside {h : Heap} (X : K.In h) (G : h.Ns mainGlobals mg) (A : FunAt K "beside" s_beside) (B : Bt mg) (C_moved_by : Callee P w K mg base "moved_by" 1 m_moved_by) : Callee P w K mg base "beside" 2 m_beside := by
  obtain ⟨f, fd, a, F⟩ := A
  exact ⟨f, fd, ["commands", "stand"], ok_beside F B C_moved_by, PySem.W.mg_of X G a, F.kp, F.binds fun _ _ _ _ _ _ us hl => match us, hl with | [_, _], _ => rfl⟩
abbrev s_raw_behind : Stmt := topS 64
abbrev n_raw_behind : List Str := ["cups", "swaps", "line", "one", "other"]
theorem sc_raw_behind : FnScope n_raw_behind ["cups", "swaps"] (defScope s_raw_behind) := ⟨rfl, rfl, rfl, by decide +kernel, rfl, by decide +kernel, by decide +kernel⟩
def m_raw_behind : List D → Res D := runF 2 5 (sSeq (sSet 2 (eCall tupleD (aCons (eRgL (g1 (eV 0))) aNil))) (sSeq (sFor (iSeq (eV 1)) (tgT (tgCons (tgN 3) (tgCons (tgN 4) tgNil))) (sSet 2 (eFn (fun ds => noX (m_swapped ds)) (aCons (eV 2) (aCons (eV 3) (aCons (eV 4) aNil)))))) (sRet (eV 2))))
theorem ok_raw_behind {f : Addr} {fd : FuncData} (F : Fun K "raw_behind" "raw_behind" s_raw_behind f fd) (B : Bt mg) (C_swapped : Callee P w K mg base "swapped" 1 m_swapped) : FnOk P w K mg base CX0 2 f fd ["cups", "swaps"] (spD m_raw_behind) := by
  refine F.ok sc_raw_behind (fun vs H Q E h => spD_len h) (fun cdv A outer s H vs Q E hr h => ?_)
  have hu : (A.deeper (envOfC "raw_behind" (defScope s_raw_behind) s.heap.objs.size f cdv)).units + 64 < cLine := hr.units
  have hu1 : (A.deeper (envOfC "raw_behind" (defScope s_raw_behind) s.heap.objs.size f cdv)).units + 1 < cLine := hu_of hr
  have hu2 : (A.deeper (envOfC "raw_behind" (defScope s_raw_behind) s.heap.objs.size f cdv)).units + 65 < cLine := by have := hr.un; omega
  exact body_end (Nm := n_raw_behind) (n := 2) rfl (dss_cons (ds_set (hs := rfl) (hf := .inl rfl) (i := 2) sc_raw_behind.nd rfl (by first | exact .inl rfl | exact .inr rfl) (de_callTy (hn := by decide) (hdb := by decide) (he := rfl) (hpl := rfl) (k_tuple (K := K) rfl) nx_tuple rfl B.b_tuple (by decide +kernel) (db_cons (hs := rfl) (dq_of (de_of (dn_listRg (na := rfl) rfl rfl B.b_list (dr_1 (na := rfl) rfl B.b_range (dq_of (de_v 0)))))) db_nil))) (dss_cons (ds_for (hs := fun _ => rfl) PassesOwn.never rfl (k_seq (K := K) rfl (de_v 1)) (ggtK (K := K) rfl rfl (by rfl) (by rfl) (tl_cons (tl_cons tl_nil)) (fun ds η w c _ => (ng_cons (ng_n 3) (ng_cons (ng_n 4) ng_nil)).2 ds η w c) (ggs (by rfl) (dg_name (i := 3) sc_raw_behind.nd rfl (by first | exact .inl rfl | exact .inr rfl)) (ggs (by rfl) (dg_name (i := 4) sc_raw_behind.nd rfl (by first | exact .inl rfl | exact .inr rfl)) dgs_nil))) (dss_one (ds_set (hs := rfl) (hf := .inl rfl) (i := 2) sc_raw_behind.nd rfl (by first | exact .inl rfl | exact .inr rfl) (de_callC (hdb := by decide) (he := rfl) (hpl := rfl) C_swapped (hr.mono (by decide)) rfl (da_cons (hs := rfl) (de_v 2) (da_cons (hs := rfl) (de_v 3) (da_cons (hs := rfl) (de_v 4) da_nil))))))) (dss_one (ds_ret (de_v 2))))) h
theorem cal_raw_behind {h : Heap} (X : K.In h) (G : h.Ns mainGlobals mg) (A : FunAt K "raw_behind" s_raw_behind) (B : Bt mg) (C_swapped : Callee P w K mg base "swapped" 1 m_swapped) : Callee P w K mg base "raw_behind" 2 m_raw_behind := by
  obtain ⟨f, fd, a, F⟩ := A
  exact ⟨f, fd, ["cups", "swaps"], ok_raw_behind F B C_swapped, PySem.W.mg_of X G a, F.kp, F.binds fun _ _ _ _ _ _ us hl => match us, hl with | [_, _], _ => rfl⟩
abbrev s_all_rounds : Stmt := topS 66
abbrev n_all_rounds : List Str := ["line", "every", "place", "one"]
theorem sc_all_rounds : FnScope n_all_rounds ["line"] (defScope s_all_rounds) := ⟨rfl, rfl, rfl, by decide +kernel, rfl, by decide +kernel, by decide +kernel⟩
def m_all_rounds : List D → Res D := runF 1 4 (sSeq (sSet 1 (eLc (iRg1 (aCons (eCall lenD (aCons (eV 0) aNil)) aNil)) [2] (tgN 2) tYesF (eFn (fun ds => noX (m_round_of ds)) (aCons (eV 0) (aCons (eV 2) aNil))))) (sRet (eLc (iSeq (eV 1)) [3] (tgN 3) (tst (e2 eqD (e2 ixD (eV 3) (eC (.int 0))) (eCall minG (aCons (eV 3) aNil)))) (eCall tupleD (aCons (eV 3) aNil)))))
theorem ok_all_rounds {f : Addr} {fd : FuncData} (F : Fun K "all_rounds" "all_rounds" s_all_rounds f fd) (B : Bt mg) (C_round_of : Callee P w K mg base "round_of" 1 m_round_of) : FnOk P w K mg base CX0 2 f fd ["line"] (spD m_all_rounds) := by
  refine F.ok sc_all_rounds (fun vs H Q E h => spD_len h) (fun cdv A outer s H vs Q E hr h => ?_)
  have hu : (A.deeper (envOfC "all_rounds" (defScope s_all_rounds) s.heap.objs.size f cdv)).units + 64 < cLine := hr.units
  have hu1 : (A.deeper (envOfC "all_rounds" (defScope s_all_rounds) s.heap.objs.size f cdv)).units + 1 < cLine := hu_of hr
  have hu2 : (A.deeper (envOfC "all_rounds" (defScope s_all_rounds) s.heap.objs.size f cdv)).units + 65 < cLine := by have := hr.un; omega
  exact body_end (Nm := n_all_rounds) (n := 1) rfl (dss_cons (ds_lc (ps_lc (hs := fun _ => rfl) (i := 1) rfl sc_all_rounds.nd rfl rfl (sw_true rfl rfl rfl (by decide +kernel)) (own := [("place", 2)]) (g := (gName 2)) (dj_of (di_range1 (hs := rfl) rfl B.b_range (db_cons (hs := rfl) (dq_of (de_callB (hn := by decide) (hdb := by decide) (he := rfl) (hpl := rfl) (k_len (K := K) rfl) nx_len rfl B.b_len (by decide +kernel) (db_cons (hs := rfl) (dq_of (de_v 0)) db_nil))) db_nil))) (blkOk_by (own := [("place", 2)]) (N := n_all_rounds) (sc := defScope s_all_rounds) (by decide +kernel)) (fun _ _ _ _ _ => (dgn_name (i := 2) sc_all_rounds.nd rfl (by first | exact .inl rfl | exact .inr rfl))) (ng_n 2) (by decide) (fun _ _ _ _ _ => dts_nil) (fun _ _ _ _ _ => (de_callC (hdb := by decide) (he := rfl) (hpl := rfl) C_round_of (hr.mono (by decide)) rfl (da_cons (hs := rfl) (de_v 0) (da_cons (hs := rfl) (de_v 2) da_nil)))))) (dss_one (ds_ret (de_of (dn_lc (hs := fun _ => rfl) rfl sc_all_rounds.nd (own := [("one", 3)]) (g := (gName 3)) (dj_of (k_seq (K := K) rfl (de_v 1))) (blkOk_by (own := [("one", 3)]) (N := n_all_rounds) (sc := defScope s_all_rounds) (by decide +kernel)) (fun _ _ _ _ _ => (dgn_name (i := 3) sc_all_rounds.nd rfl (by first | exact .inl rfl | exact .inr rfl))) (ng_n 3) (by decide) (fun _ _ _ _ _ => dts_one (dt_cmp (k_eq (K := K) rfl hu) nx_eq (dq_of (k_ix (hs := fun _ _ => rfl) (K := K) rfl (dq_of (de_v 3)) (dq_of de_int))) (dq_of (de_callB (hn := by decide) (hdb := by decide) (he := rfl) (hpl := rfl) (k_minG (K := K) rfl rfl hu) nx_minG rfl B.b_min (by decide +kernel) (db_cons (hs := rfl) (dq_of (de_v 3)) db_nil))) (nomark _))) (fun _ _ _ _ _ => (de_callTy (hn := by decide) (hdb := by decide) (he := rfl) (hpl := rfl) (k_tuple (K := K) rfl) nx_tuple rfl B.b_tuple (by decide +kernel) (db_cons (hs := rfl) (dq_of (de_v 3)) db_nil)))))))) h
theorem cal_all_rounds {h : Heap} (X : K.In h) (G : h.Ns mainGlobals mg) (A : FunAt K "all_rounds" s_all_rounds) (B : Bt mg) (C_round_of : Callee P w K mg base "round_of" 1 m_round_of) : Callee P w K mg base "all_rounds" 2 m_all_rounds := by
  obtain ⟨f, fd, a, F⟩ := A
  exact ⟨f, fd, ["line"], ok_all_rounds F B C_round_of, PySem.W.mg_of X G a, F.kp, F.binds fun _ _ _ _ _ _ us hl => match us, hl with | [_], _ => rfl⟩
abbrev s_first_swap : Stmt := topS 70
abbrev n_first_swap : List Str := ["left", "one", "some", "other"]
theorem sc_first_swap : FnScope n_first_swap ["left"] (defScope s_first_swap) := ⟨rfl, rfl, rfl, by decide +kernel, rfl, by decide +kernel, by decide +kernel⟩
def m_first_swap : List D → Res D := runF 1 4 (sSeq (sFor (iRg1 (aCons (eCall lenD (aCons (eV 0) aNil)) aNil)) (tgN 1) (sSeq (sSet 2 (eLc (iSeq (eFn (fun ds => noX (m_round_of ds)) (aCons (eV 0) (aCons (eV 1) aNil)))) [3] (tgN 3) (tst (e2 gtD (eV 3) (eV 1))) (eV 3))) (sIf (tst (e2 gtD (eCall lenD (aCons (eV 2) aNil)) (eC (.int 0)))) (sRet (eTup (aCons (eV 1) (aCons (eCall minG (aCons (eV 2) aNil)) aNil)))) sNil))) (sRet (eC .none)))
theorem ok_first_swap {f : Addr} {fd : FuncData} (F : Fun K "first_swap" "first_swap" s_first_swap f fd) (B : Bt mg) (C_round_of : Callee P w K mg base "round_of" 1 m_round_of) : FnOk P w K mg base CX0 2 f fd ["left"] (spD m_first_swap) := by
  refine F.ok sc_first_swap (fun vs H Q E h => spD_len h) (fun cdv A outer s H vs Q E hr h => ?_)
  have hu : (A.deeper (envOfC "first_swap" (defScope s_first_swap) s.heap.objs.size f cdv)).units + 64 < cLine := hr.units
  have hu1 : (A.deeper (envOfC "first_swap" (defScope s_first_swap) s.heap.objs.size f cdv)).units + 1 < cLine := hu_of hr
  have hu2 : (A.deeper (envOfC "first_swap" (defScope s_first_swap) s.heap.objs.size f cdv)).units + 65 < cLine := by have := hr.un; omega
  exact body_end (Nm := n_first_swap) (n := 1) rfl (dss_cons (ds_for (hs := fun _ => rfl) PassesOwn.never rfl (di_range1 (hs := rfl) rfl B.b_range (db_cons (hs := rfl) (dq_of (de_callB (hn := by decide) (hdb := by decide) (he := rfl) (hpl := rfl) (k_len (K := K) rfl) nx_len rfl B.b_len (by decide +kernel) (db_cons (hs := rfl) (dq_of (de_v 0)) db_nil))) db_nil)) (dg_name (i := 1) sc_first_swap.nd rfl (by first | exact .inl rfl | exact .inr rfl)) (dss_cons (ds_lc (ps_lc (hs := fun _ => rfl) (i := 2) rfl sc_first_swap.nd rfl rfl (sw_true rfl rfl rfl (by decide +kernel)) (own := [("other", 3)]) (g := (gName 3)) (dj_of (k_seq (K := K) rfl (de_callC (hdb := by decide) (he := rfl) (hpl := rfl) C_round_of (hr.mono (by decide)) rfl (da_cons (hs := rfl) (de_v 0) (da_cons (hs := rfl) (de_v 1) da_nil))))) (blkOk_by (own := [("other", 3)]) (N := n_first_swap) (sc := defScope s_first_swap) (by decide +kernel)) (fun _ _ _ _ _ => (dgn_name (i := 3) sc_first_swap.nd rfl (by first | exact .inl rfl | exact .inr rfl))) (ng_n 3) (by decide) (fun _ _ _ _ _ => dts_one (dt_cmp o_gt nx_c2 (dq_of (de_v 3)) (dq_of (de_v 1)) (nomark _))) (fun _ _ _ _ _ => (de_v 3)))) (dss_one (ds_if (dt_cmp o_gt nx_c2 (dq_of (de_callB (hn := by decide) (hdb := by decide) (he := rfl) (hpl := rfl) (k_len (K := K) rfl) nx_len rfl B.b_len (by decide +kernel) (db_cons (hs := rfl) (dq_of (de_v 2)) db_nil))) (dq_of de_int) (nomark _)) (dss_one (ds_ret (de_tup (da_cons (hs := rfl) (de_v 1) (da_cons (hs := rfl) (de_callB (hn := by decide) (hdb := by decide) (he := rfl) (hpl := rfl) (k_minG (K := K) rfl rfl hu) nx_minG rfl B.b_min (by decide +kernel) (db_cons (hs := rfl) (dq_of (de_v 2)) db_nil)) da_nil))))) dss_nil)))) (dss_one (ds_ret de_non))) h
theorem cal_first_swap {h : Heap} (X : K.In h) (G : h.Ns mainGlobals mg) (A : FunAt K "first_swap" s_first_swap) (B : Bt mg) (C_round_of : Callee P w K mg base "round_of" 1 m_round_of) : Callee P w K mg base "first_swap" 2 m_first_swap := by
  obtain ⟨f, fd, a, F⟩ := A
  exact ⟨f, fd, ["left"], ok_first_swap F B C_round_of, PySem.W.mg_of X G a, F.kp, F.binds fun _ _ _ _ _ _ us hl => match us, hl with | [_], _ => rfl⟩
abbrev s_all_turns : Stmt := topS 80
abbrev n_all_turns : List Str := ["horses", "places"]
theorem sc_all_turns : FnScope n_all_turns ["horses"] (defScope s_all_turns) := ⟨rfl, rfl, rfl, by decide +kernel, rfl, by decide +kernel, by decide +kernel⟩
def m_all_turns : List D → Res D := runF 1 2 (sRet (eLc (iRg1 (aCons (eCall lenD (aCons (eV 0) aNil)) aNil)) [1] (tgN 1) tYesF (eFn (fun ds => noX (m_turned_by ds)) (aCons (eV 0) (aCons (eV 1) aNil)))))
theorem ok_all_turns {f : Addr} {fd : FuncData} (F : Fun K "all_turns" "all_turns" s_all_turns f fd) (B : Bt mg) (C_turned_by : Callee P w K mg base "turned_by" 1 m_turned_by) : FnOk P w K mg base CX0 2 f fd ["horses"] (spD m_all_turns) := by
  refine F.ok sc_all_turns (fun vs H Q E h => spD_len h) (fun cdv A outer s H vs Q E hr h => ?_)
  have hu : (A.deeper (envOfC "all_turns" (defScope s_all_turns) s.heap.objs.size f cdv)).units + 64 < cLine := hr.units
  have hu1 : (A.deeper (envOfC "all_turns" (defScope s_all_turns) s.heap.objs.size f cdv)).units + 1 < cLine := hu_of hr
  have hu2 : (A.deeper (envOfC "all_turns" (defScope s_all_turns) s.heap.objs.size f cdv)).units + 65 < cLine := by have := hr.un; omega
  exact body_end (Nm := n_all_turns) (n := 1) rfl (dss_one (ds_ret (de_of (dn_lc (hs := fun _ => rfl) rfl sc_all_turns.nd (own := [("places", 1)]) (g := (gName 1)) (dj_of (di_range1 (hs := rfl) rfl B.b_range (db_cons (hs := rfl) (dq_of (de_callB (hn := by decide) (hdb := by decide) (he := rfl) (hpl := rfl) (k_len (K := K) rfl) nx_len rfl B.b_len (by decide +kernel) (db_cons (hs := rfl) (dq_of (de_v 0)) db_nil))) db_nil))) (blkOk_by (own := [("places", 1)]) (N := n_all_turns) (sc := defScope s_all_turns) (by decide +kernel)) (fun _ _ _ _ _ => (dgn_name (i := 1) sc_all_turns.nd rfl (by first | exact .inl rfl | exact .inr rfl))) (ng_n 1) (by decide) (fun _ _ _ _ _ => dts_nil) (fun _ _ _ _ _ => (de_callC (hdb := by decide) (he := rfl) (hpl := rfl) C_turned_by (hr.mono (by decide)) rfl (da_cons (hs := rfl) (de_v 0) (da_cons (hs := rfl) (de_v 1) da_nil)))))))) h
theorem cal_all_turns {h : Heap} (X : K.In h) (G : h.Ns mainGlobals mg) (A : FunAt K "all_turns" s_all_turns) (B : Bt mg) (C_turned_by : Callee P w K mg base "turned_by" 1 m_turned_by) : Callee P w K mg base "all_turns" 2 m_all_turns := by
  obtain ⟨f, fd, a, F⟩ := A
  exact ⟨f, fd, ["horses"], ok_all_turns F B C_turned_by, PySem.W.mg_of X G a, F.kp, F.binds fun _ _ _ _ _ _ us hl => match us, hl with | [_], _ => rfl⟩
abbrev s_are_within : Stmt := topS 4
abbrev n_are_within : List Str := ["thing", "least", "most", "one"]
theorem sc_are_within : FnScope n_are_within ["thing", "least", "most"] (defScope s_are_within) := ⟨rfl, rfl, rfl, by decide +kernel, rfl, by decide +kernel, by decide +kernel⟩
def m_are_within : List D → Res D := runF 3 4 (sRet (eAnd (e1 (isiD' "tuple") (eV 0)) (eCall allD (aCons (eLc (iSeq (eV 0)) [3] (tgN 3) tYesF (eFn (fun ds => noX (m_is_within ds)) (aCons (eV 3) (aCons (eV 1) (aCons (eV 2) aNil))))) aNil))))
theorem ok_are_within {f : Addr} {fd : FuncData} (F : Fun K "are_within" "are_within" s_are_within f fd) (B : Bt mg) (C_is_within : Callee P w K mg base "is_within" 2 m_is_within) : FnOk P w K mg base CX0 3 f fd ["thing", "least", "most"] (spD m_are_within) := by
  refine F.ok sc_are_within (fun vs H Q E h => spD_len h) (fun cdv A outer s H vs Q E hr h => ?_)
  have hu : (A.deeper (envOfC "are_within" (defScope s_are_within) s.heap.objs.size f cdv)).units + 64 < cLine := hr.units
  have hu1 : (A.deeper (envOfC "are_within" (defScope s_are_within) s.heap.objs.size f cdv)).units + 1 < cLine := hu_of hr
  have hu2 : (A.deeper (envOfC "are_within" (defScope s_are_within) s.heap.objs.size f cdv)).units + 65 < cLine := by have := hr.un; omega
  exact body_end (Nm := n_are_within) (n := 3) rfl (dss_one (ds_ret (de_and (k_isi (hn2 := by decide) (hd2 := by decide) (s1 := rfl) (s2 := rfl) (hpl := rfl) (K := K) rfl rfl B.b_isinstance (by decide +kernel) rfl B.b_tuple (by decide +kernel) (dq_of (de_v 0))) (de_one (de_callB (hn := by decide) (hdb := by decide) (he := rfl) (hpl := rfl) (k_all (K := K) rfl rfl) nx_all rfl B.b_all (by decide +kernel) (db_cons (hs := rfl) (dq_of (de_of (dn_lc (hs := fun _ => rfl) rfl sc_are_within.nd (own := [("one", 3)]) (g := (gName 3)) (dj_of (k_seq (K := K) rfl (de_v 0))) (blkOk_by (own := [("one", 3)]) (N := n_are_within) (sc := defScope s_are_within) (by decide +kernel)) (fun _ _ _ _ _ => (dgn_name (i := 3) sc_are_within.nd rfl (by first | exact .inl rfl | exact .inr rfl))) (ng_n 3) (by decide) (fun _ _ _ _ _ => dts_nil) (fun _ _ _ _ _ => (de_callC (hdb := by decide) (he := rfl) (hpl := rfl) C_is_within (hr.mono (by decide)) rfl (da_cons (hs := rfl) (de_v 3) (da_cons (hs := rfl) (de_v 1) (da_cons (hs := rfl) (de_v 2) da_nil)))))))) db_nil)))))) h
theorem cal_are_within {h : Heap} (X : K.In h) (G : h.Ns mainGlobals mg) (A : FunAt K "are_within" s_are_within) (B : Bt mg) (C_is_within : Callee P w K mg base "is_within" 2 m_is_within) : Callee P w K mg base "are_within" 3 m_are_within := by
  obtain ⟨f, fd, a, F⟩ := A
  exact ⟨f, fd, ["thing", "least", "most"], ok_are_within F B C_is_within, PySem.W.mg_of X G a, F.kp, F.binds fun _ _ _ _ _ _ us hl => match us, hl with | [_, _, _], _ => rfl⟩
abbrev s_are_throws : Stmt := topS 22
abbrev n_are_throws : List Str := ["thing", "one"]
theorem sc_are_throws : FnScope n_are_throws ["thing"] (defScope s_are_throws) := ⟨rfl, rfl, rfl, by decide +kernel, rfl, by decide +kernel, by decide +kernel⟩
def m_are_throws : List D → Res D := runF 1 2 (sSeq (sIf (tOrF (tNotF (tst (e1 (isiD' "tuple") (eV 0)))) (tNotF (tst (eChain leD leD (eC (.int 1)) (eCall lenD (aCons (eV 0) aNil)) (eC (.int 8)))))) (sRet (eC (.bool false))) sNil) (sRet (eCall allD (aCons (eLc (iSeq (eV 0)) [1] (tgN 1) tYesF (eFn (fun ds => noX (m_is_within ds)) (aCons (eV 1) (aCons (eC (.int 0)) (aCons (eC (.int 12)) aNil))))) aNil))))
theorem ok_are_throws {f : Addr} {fd : FuncData} (F : Fun K "are_throws" "are_throws" s_are_throws f fd) (B : Bt mg) (C_is_within : Callee P w K mg base "is_within" 2 m_is_within) : FnOk P w K mg base CX0 3 f fd ["thing"] (spD m_are_throws) := by
  refine F.ok sc_are_throws (fun vs H Q E h => spD_len h) (fun cdv A outer s H vs Q E hr h => ?_)
  have hu : (A.deeper (envOfC "are_throws" (defScope s_are_throws) s.heap.objs.size f cdv)).units + 64 < cLine := hr.units
  have hu1 : (A.deeper (envOfC "are_throws" (defScope s_are_throws) s.heap.objs.size f cdv)).units + 1 < cLine := hu_of hr
  have hu2 : (A.deeper (envOfC "are_throws" (defScope s_are_throws) s.heap.objs.size f cdv)).units + 65 < cLine := by have := hr.un; omega
  exact body_end (Nm := n_are_throws) (n := 1) rfl (dss_cons (ds_if (dt_of (dw_or (dt_not (dt_val (he := fun _ => rfl) (k_isi (hn2 := by decide) (hd2 := by decide) (s1 := rfl) (s2 := rfl) (hpl := rfl) (K := K) rfl rfl B.b_isinstance (by decide +kernel) rfl B.b_tuple (by decide +kernel) (dq_of (de_v 0))))) (dw_or1 (dt_not (dt_chain (hm := by with_unfolding_all rfl) o_le nx_c2 o_le nx_c2 (dq_of de_int) (dq_of (de_callB (hn := by decide) (hdb := by decide) (he := rfl) (hpl := rfl) (k_len (K := K) rfl) nx_len rfl B.b_len (by decide +kernel) (db_cons (hs := rfl) (dq_of (de_v 0)) db_nil))) (dq_of (de_globI rfl B.g_MOST_BEATS))))))) (dss_one (ds_ret de_bl)) dss_nil) (dss_one (ds_ret (de_callB (hn := by decide) (hdb := by decide) (he := rfl) (hpl := rfl) (k_all (K := K) rfl rfl) nx_all rfl B.b_all (by decide +kernel) (db_cons (hs := rfl) (dq_of (de_of (dn_lc (hs := fun _ => rfl) rfl sc_are_throws.nd (own := [("one", 1)]) (g := (gName 1)) (dj_of (k_seq (K := K) rfl (de_v 0))) (blkOk_by (own := [("one", 1)]) (N := n_are_throws) (sc := defScope s_are_throws) (by decide +kernel)) (fun _ _ _ _ _ => (dgn_name (i := 1) sc_are_throws.nd rfl (by first | exact .inl rfl | exact .inr rfl))) (ng_n 1) (by decide) (fun _ _ _ _ _ => dts_nil) (fun _ _ _ _ _ => (de_callC (hdb := by decide) (he := rfl) (hpl := rfl) C_is_within (hr.mono (by decide)) rfl (da_cons (hs := rfl) (de_v 1) (da_cons (hs := rfl) de_int (da_cons (hs := rfl) (de_globI rfl B.g_MOST_THROW) da_nil)))))))) db_nil))))) h
theorem cal_are_throws {h : Heap} (X : K.In h) (G : h.Ns mainGlobals mg) (A : FunAt K "are_throws" s_are_throws) (B : Bt mg) (C_is_within : Callee P w K mg base "is_within" 2 m_is_within) : Callee P w K mg base "are_throws" 3 m_are_throws := by
  obtain ⟨f, fd, a, F⟩ := A
  exact ⟨f, fd, ["thing"], ok_are_throws F B C_is_within, PySem.W.mg_of X G a, F.kp, F.binds fun _ _ _ _ _ _ us hl => match us, hl with | [_], _ => rfl⟩
abbrev s_raw_clash : Stmt := topS 26
abbrev n_raw_clash : List Str := ["throws", "lands", "place", "here", "later"]
theorem sc_raw_clash : FnScope n_raw_clash ["throws"] (defScope s_raw_clash) := ⟨rfl, rfl, rfl, by decide +kernel, rfl, by decide +kernel, by decide +kernel⟩
def m_raw_clash : List D → Res D := runF 1 5 (sSeq (sSet 1 (eFn (fun ds => noX (m_landings ds)) (aCons (eV 0) aNil))) (sSeq (sFor (iEnumA (eV 1)) (tgT (tgCons (tgN 2) (tgCons (tgN 3) tgNil))) (sFor (iRg2 (aCons (e2 addD (eV 2) (eC (.int 1))) (aCons (eCall lenD (aCons (eV 1) aNil)) aNil))) (tgN 4) (sIf (tst (e2 eqD (e2 ixD (eV 1) (eV 4)) (eV 3))) (sRet (eTup (aCons (eV 2) (aCons (eV 4) aNil)))) sNil))) (sRet (eC .none))))
theorem ok_raw_clash {f : Addr} {fd : FuncData} (F : Fun K "raw_clash" "raw_clash" s_raw_clash f fd) (B : Bt mg) (C_landings : Callee P w K mg base "landings" 2 m_landings) : FnOk P w K mg base CX0 3 f fd ["throws"] (spD m_raw_clash) := by
  refine F.ok sc_raw_clash (fun vs H Q E h => spD_len h) (fun cdv A outer s H vs Q E hr h => ?_)
  have hu : (A.deeper (envOfC "raw_clash" (defScope s_raw_clash) s.heap.objs.size f cdv)).units + 64 < cLine := hr.units
  have hu1 : (A.deeper (envOfC "raw_clash" (defScope s_raw_clash) s.heap.objs.size f cdv)).units + 1 < cLine := hu_of hr
  have hu2 : (A.deeper (envOfC "raw_clash" (defScope s_raw_clash) s.heap.objs.size f cdv)).units + 65 < cLine := by have := hr.un; omega
  exact body_end (Nm := n_raw_clash) (n := 1) rfl (dss_cons (ds_set (hs := rfl) (hf := .inl rfl) (i := 1) sc_raw_clash.nd rfl (by first | exact .inl rfl | exact .inr rfl) (de_callC (hdb := by decide) (he := rfl) (hpl := rfl) C_landings (hr.mono (by decide)) rfl (da_cons (hs := rfl) (de_v 0) da_nil))) (dss_cons (ds_for (hs := fun _ => rfl) PassesOwn.never rfl (k_enumA (hs := rfl) (hs2 := rfl) (K := K) rfl rfl B.b_enumerate (de_v 1)) (ggtK (K := K) rfl rfl (by rfl) (by rfl) (tl_cons (tl_cons tl_nil)) (fun ds η w c _ => (ng_cons (ng_n 2) (ng_cons (ng_n 3) ng_nil)).2 ds η w c) (ggs (by rfl) (dg_name (i := 2) sc_raw_clash.nd rfl (by first | exact .inl rfl | exact .inr rfl)) (ggs (by rfl) (dg_name (i := 3) sc_raw_clash.nd rfl (by first | exact .inl rfl | exact .inr rfl)) dgs_nil))) (dss_one (ds_for (hs := fun _ => rfl) PassesOwn.never rfl (di_range2 (hs := rfl) (hs2 := rfl) rfl B.b_range (db_cons (hs := rfl) (dq_of (de_op (k_add (K := K) rfl) nx_add (dq_of (de_v 2)) (dq_of de_int))) (db_cons (hs := rfl) (dq_of (de_callB (hn := by decide) (hdb := by decide) (he := rfl) (hpl := rfl) (k_len (K := K) rfl) nx_len rfl B.b_len (by decide +kernel) (db_cons (hs := rfl) (dq_of (de_v 1)) db_nil))) db_nil))) (dg_name (i := 4) sc_raw_clash.nd rfl (by first | exact .inl rfl | exact .inr rfl)) (dss_one (ds_if (dt_cmp (k_eq (K := K) rfl hu) nx_eq (dq_of (k_ix (hs := fun _ _ => rfl) (K := K) rfl (dq_of (de_v 1)) (dq_of (de_v 4)))) (dq_of (de_v 3)) (nomark _)) (dss_one (ds_ret (de_tup (da_cons (hs := rfl) (de_v 2) (da_cons (hs := rfl) (de_v 4) da_nil))))) dss_nil))))) (dss_one (ds_ret de_non)))) h
theorem cal_raw_clash {h : Heap} (X : K.In h) (G : h.Ns mainGlobals mg) (A : FunAt K "raw_clash" s_raw_clash) (B : Bt mg) (C_landings : Callee P w K mg base "landings" 2 m_landings) : Callee P w K mg base "raw_clash" 3 m_raw_clash := by
  obtain ⟨f, fd, a, F⟩ := A
  exact ⟨f, fd, ["throws"], ok_raw_clash F B C_landings, PySem.W.mg_of X G a, F.kp, F.binds fun _ _ _ _ _ _ us hl => match us, hl with | [_], _ => rfl⟩
abbrev s_hanging_with : Stmt := topS 33
abbrev n_hanging_with : List Str := ["begin", "beside", "known", "waiting", "other"]
theorem sc_hanging_with : FnScope n_hanging_with ["begin", "beside"] (defScope s_hanging_with) := ⟨rfl, rfl, rfl, by decide +kernel, rfl, by decide +kernel, by decide +kernel⟩
def g_hanging_with (l0 : List D → Res D) : FS Unit := (sSeq (sPar 2 3 (mOw (eDisp1 (eV 0) (eC (.bool true))) (mOw (eLst (aCons (eV 0) aNil)) mNil))) (sSeq (sWhile 1000 (tst (e2 gtD (eCall lenD (aCons (eVq 3) aNil)) (eC (.int 0)))) (sForX (iSeqX (eFnVX 1 0 l0 (xPop 3))) (tgN 4) (sIf (tst (eDin true (eV 4) (eVq 2))) (sSeq (sDput 2 (eV 4) (eC (.bool true))) (sApp 3 (eV 4))) sNil))) (sRet (eCall sortedG (aCons (eVq 2) aNil)))))
def gm_hanging_with : List (List D → Res D) → FS Unit := fun ms => match ms with | [l0] => g_hanging_with l0 | _ => sStk
def m_hanging_with : List (List D → Res D) → List D → Res D := fun ms ds => runV 1 1 5 (gm_hanging_with ms) ds
theorem cal_hanging_with {h : Heap} (X : K.In h) (G : h.Ns mainGlobals mg) (A : FunAt K "hanging_with" s_hanging_with) (B : Bt mg)  : CalleeL P w K mg base "hanging_with" 2 1 1 m_hanging_with := by
  obtain ⟨f, fd, a, F⟩ := A
  refine ⟨f, fd, ["begin", "beside"], PySem.W.mg_of X G a, F.kp, F.binds fun _ _ _ _ _ _ us hl => match us, hl with | [_, _], _ => rfl, rfl, okL (k := 2) (gm := gm_hanging_with) F sc_hanging_with rfl fun cdv A outer s H fs cs ms low hr hL hl => ?_⟩
  obtain ⟨f0, c0, l0, rfl, rfl, rfl, ⟨L0⟩⟩ := lams1 hL hl
  have hu : (A.deeper (envOfC "hanging_with" (defScope s_hanging_with) s.heap.objs.size f cdv)).units + 64 < cLine := hr.units
  have hu1 : (A.deeper (envOfC "hanging_with" (defScope s_hanging_with) s.heap.objs.size f cdv)).units + 1 < cLine := hu_of hr
  have hu2 : (A.deeper (envOfC "hanging_with" (defScope s_hanging_with) s.heap.objs.size f cdv)).units + 65 < cLine := by have := hr.un; omega
  exact ⟨_, (show DSs _ _ _ _ (g_hanging_with l0) from (dss_cons (ds_par (hs := rfl) (i := 2) (j := 3) rfl sc_hanging_with.nd rfl rfl (by decide) rfl rfl (dm_ow (hs := rfl) (dn_disp1 hu1 (de_v 0) de_bl) (dm_ow (hs := rfl) (dn_lst (da_cons (hs := rfl) (de_v 0) da_nil)) dm_nil)) (by rfl)) (dss_cons (ds_while 1000 PassesOwn.never (dt_cmp o_gt nx_c2 (dq_of (de_callB (hn := by decide) (hdb := by decide) (he := rfl) (hpl := rfl) (k_len (K := K) rfl) nx_len rfl B.b_len (by decide +kernel) (db_cons (hs := rfl) (dq_v 3) db_nil))) (dq_of de_int) (nomark _)) (dss_one (ds_forX PassesOwn.never rfl (dix_seq (dx_callV L0 0 rfl List.mem_cons_self rfl hr (Nat.le_refl _) 1 rfl (by first | exact Or.inl rfl | exact Or.inr (Or.inl rfl) | exact Or.inr (Or.inr rfl)) (dx_pop 3 rfl (by first | exact Or.inl rfl | exact Or.inr (Or.inl rfl) | exact Or.inr (Or.inr rfl)) rfl rfl (by decide) (by decide)) (by decide) (by decide) rfl rfl)) (dg_name (i := 4) sc_hanging_with.nd rfl (by first | exact .inl rfl | exact .inr rfl)) (dss_one (ds_if (dt_dnin (h1 := by with_unfolding_all rfl) hu1 (dq_of (de_v 4)) (dq_v 2)) (dss_cons (ds_dput (hN := rfl) (hvis := by first | exact Or.inl rfl | exact Or.inr (Or.inl rfl)) (hs := rfl) (hd := by decide) (hcd := by decide) hu1 2 (hk := (dq_of (de_v 4))) (hv := de_bl)) (dss_one (ds_app (hN := rfl) (hv := by first | exact Or.inl rfl | exact Or.inr (Or.inl rfl)) (hb := rfl) (hf := rfl) (hl := rfl) (hs := rfl) (hp := rfl) (hsw := rfl) (hd := by decide) (hcd := by decide) 3 (he := (de_v 4))))) dss_nil)) (fun _ => rfl)))) (dss_one (ds_ret (de_of (dn_callB (hn := by decide) (hdb := by decide) (he := rfl) (hpl := rfl) (k_sortedG (K := K) rfl rfl hu) nx_sortedG rfl B.b_sorted (by decide +kernel) (db_cons (hs := rfl) (dq_v 2) db_nil))))))))⟩
abbrev s_check_number : Stmt := topS 44
abbrev n_check_number : List Str := ["commands", "number"]
theorem sc_check_number : FnScope n_check_number ["commands", "number"] (defScope s_check_number) := ⟨rfl, rfl, rfl, by decide +kernel, rfl, by decide +kernel, by decide +kernel⟩
def m_check_number : List D → Res D := runF 2 2 (sIf (tNotF (tst (eFn (fun ds => noX (m_is_within ds)) (aCons (eV 1) (aCons (eC (.int 0)) (aCons (e2 subD (eCall lenD (aCons (eV 0) aNil)) (eC (.int 1))) aNil)))))) sStk sNil)
theorem ok_check_number {f : Addr} {fd : FuncData} (F : Fun K "check_number" "check_number" s_check_number f fd) (B : Bt mg) (C_is_within : Callee P w K mg base "is_within" 2 m_is_within) : FnOk P w K mg base CX0 3 f fd ["commands", "number"] (spD m_check_number) := by
  refine F.ok sc_check_number (fun vs H Q E h => spD_len h) (fun cdv A outer s H vs Q E hr h => ?_)
  have hu : (A.deeper (envOfC "check_number" (defScope s_check_number) s.heap.objs.size f cdv)).units + 64 < cLine := hr.units
  have hu1 : (A.deeper (envOfC "check_number" (defScope s_check_number) s.heap.objs.size f cdv)).units + 1 < cLine := hu_of hr
  have hu2 : (A.deeper (envOfC "check_number" (defScope s_check_number) s.heap.objs.size f cdv)).units + 65 < cLine := by have := hr.un; omega
  exact body_end (Nm := n_check_number) (n := 2) rfl (dss_one (ds_if (dt_not (dt_val (he := fun _ => rfl) (de_callC (hdb := by decide) (he := rfl) (hpl := rfl) C_is_within (hr.mono (by decide)) rfl (da_cons (hs := rfl) (de_v 1) (da_cons (hs := rfl) de_int (da_cons (hs := rfl) (de_op o_sub nx_i2 (dq_of (de_callB (hn := by decide) (hdb := by decide) (he := rfl) (hpl := rfl) (k_len (K := K) rfl) nx_len rfl B.b_len (by decide +kernel) (db_cons (hs := rfl) (dq_of (de_v 0)) db_nil))) (dq_of de_int)) da_nil)))))) (dss_one ds_never) dss_nil)) h
theorem cal_check_number {h : Heap} (X : K.In h) (G : h.Ns mainGlobals mg) (A : FunAt K "check_number" s_check_number) (B : Bt mg) (C_is_within : Callee P w K mg base "is_within" 2 m_is_within) : Callee P w K mg base "check_number" 3 m_check_number := by
  obtain ⟨f, fd, a, F⟩ := A
  exact ⟨f, fd, ["commands", "number"], ok_check_number F B C_is_within, PySem.W.mg_of X G a, F.kp, F.binds fun _ _ _ _ _ _ us hl => match us, hl with | [_, _], _ => rfl⟩
abbrev s_check_cups : Stmt := topS 59
abbrev n_check_cups : List Str := ["cups"]
theorem sc_check_cups : FnScope n_check_cups ["cups"] (defScope s_check_cups) := ⟨rfl, rfl, rfl, by decide +kernel, rfl, by decide +kernel, by decide +kernel⟩
def m_check_cups : List D → Res D := runF 1 1 (sIf (tNotF (tst (eFn (fun ds => noX (m_is_within ds)) (aCons (eV 0) (aCons (eC (.int 2)) (aCons (eC (.int 9)) aNil)))))) sStk sNil)
theorem ok_check_cups {f : Addr} {fd : FuncData} (F : Fun K "check_cups" "check_cups" s_check_cups f fd) (B : Bt mg) (C_is_within : Callee P w K mg base "is_within" 2 m_is_within) : FnOk P w K mg base CX0 3 f fd ["cups"] (spD m_check_cups) := by
  refine F.ok sc_check_cups (fun vs H Q E h => spD_len h) (fun cdv A outer s H vs Q E hr h => ?_)
  have hu : (A.deeper (envOfC "check_cups" (defScope s_check_cups) s.heap.objs.size f cdv)).units + 64 < cLine := hr.units
  have hu1 : (A.deeper (envOfC "check_cups" (defScope s_check_cups) s.heap.objs.size f cdv)).units + 1 < cLine := hu_of hr
  have hu2 : (A.deeper (envOfC "check_cups" (defScope s_check_cups) s.heap.objs.size f cdv)).units + 65 < cLine := by have := hr.un; omega
  exact body_end (Nm := n_check_cups) (n := 1) rfl (dss_one (ds_if (dt_not (dt_val (he := fun _ => rfl) (de_callC (hdb := by decide) (he := rfl) (hpl := rfl) C_is_within (hr.mono (by decide)) rfl (da_cons (hs := rfl) (de_v 0) (da_cons (hs := rfl) (de_globI rfl B.g_LEAST_CUPS) (da_cons (hs := rfl) (de_globI rfl B.g_MOST_CUPS) da_nil)))))) (dss_one ds_never) dss_nil)) h
theorem cal_check_cups {h : Heap} (X : K.In h) (G : h.Ns mainGlobals mg) (A : FunAt K "check_cups" s_check_cups) (B : Bt mg) (C_is_within : Callee P w K mg base "is_within" 2 m_is_within) : Callee P w K mg base "check_cups" 3 m_check_cups := by
  obtain ⟨f, fd, a, F⟩ := A
  exact ⟨f, fd, ["cups"], ok_check_cups F B C_is_within, PySem.W.mg_of X G a, F.kp, F.binds fun _ _ _ _ _ _ us hl => match us, hl with | [_], _ => rfl⟩
abbrev s_is_swap : Stmt := topS 60
abbrev n_is_swap : List Str := ["cups", "thing"]
theorem sc_is_swap : FnScope n_is_swap ["cups", "thing"] (defScope s_is_swap) := ⟨rfl, rfl, rfl, by decide +kernel, rfl, by decide +kernel, by decide +kernel⟩
def m_is_swap : List D → Res D := runF 2 2 (sSeq (sIf (tOrF (tNotF (tst (eFn (fun ds => noX (m_is_tuple_of ds)) (aCons (eV 1) (aCons (eC (.int 2)) aNil))))) (tOrF (tNotF (tst (eFn (fun ds => noX (m_is_within ds)) (aCons (e2 ixD (eV 1) (eC (.int 0))) (aCons (eC (.int 0)) (aCons (e2 subD (eV 0) (eC (.int 1))) aNil)))))) (tNotF (tst (eFn (fun ds => noX (m_is_within ds)) (aCons (e2 ixD (eV 1) (eC (.int 1))) (aCons (eC (.int 0)) (aCons (e2 subD (eV 0) (eC (.int 1))) aNil)))))))) (sRet (eC (.bool false))) sNil) (sRet (e2 ltD (e2 ixD (eV 1) (eC (.int 0))) (e2 ixD (eV 1) (eC (.int 1))))))
theorem ok_is_swap {f : Addr} {fd : FuncData} (F : Fun K "is_swap" "is_swap" s_is_swap f fd) (B : Bt mg) (C_is_tuple_of : Callee P w K mg base "is_tuple_of" 1 m_is_tuple_of) (C_is_within : Callee P w K mg base "is_within" 2 m_is_within) : FnOk P w K mg base CX0 3 f fd ["cups", "thing"] (spD m_is_swap) := by
  refine F.ok sc_is_swap (fun vs H Q E h => spD_len h) (fun cdv A outer s H vs Q E hr h => ?_)
  have hu : (A.deeper (envOfC "is_swap" (defScope s_is_swap) s.heap.objs.size f cdv)).units + 64 < cLine := hr.units
  have hu1 : (A.deeper (envOfC "is_swap" (defScope s_is_swap) s.heap.objs.size f cdv)).units + 1 < cLine := hu_of hr
  have hu2 : (A.deeper (envOfC "is_swap" (defScope s_is_swap) s.heap.objs.size f cdv)).units + 65 < cLine := by have := hr.un; omega
  exact body_end (Nm := n_is_swap) (n := 2) rfl (dss_cons (ds_if (dt_of (dw_or (dt_not (dt_val (he := fun _ => rfl) (de_callC (hdb := by decide) (he := rfl) (hpl := rfl) C_is_tuple_of (hr.mono (by decide)) rfl (da_cons (hs := rfl) (de_v 1) (da_cons (hs := rfl) de_int da_nil))))) (dw_or (dt_not (dt_val (he := fun _ => rfl) (de_callC (hdb := by decide) (he := rfl) (hpl := rfl) C_is_within (hr.mono (by decide)) rfl (da_cons (hs := rfl) (k_ix (hs := fun _ _ => rfl) (K := K) rfl (dq_of (de_v 1)) (dq_of de_int)) (da_cons (hs := rfl) de_int (da_cons (hs := rfl) (de_op o_sub nx_i2 (dq_of (de_v 0)) (dq_of de_int)) da_nil)))))) (dw_or1 (dt_not (dt_val (he := fun _ => rfl) (de_callC (hdb := by decide) (he := rfl) (hpl := rfl) C_is_within (hr.mono (by decide)) rfl (da_cons (hs := rfl) (k_ix (hs := fun _ _ => rfl) (K := K) rfl (dq_of (de_v 1)) (dq_of de_int)) (da_cons (hs := rfl) de_int (da_cons (hs := rfl) (de_op o_sub nx_i2 (dq_of (de_v 0)) (dq_of de_int)) da_nil)))))))))) (dss_one (ds_ret de_bl)) dss_nil) (dss_one (ds_ret (de_cmp o_lt nx_c2 (dq_of (k_ix (hs := fun _ _ => rfl) (K := K) rfl (dq_of (de_v 1)) (dq_of de_int))) (dq_of (k_ix (hs := fun _ _ => rfl) (K := K) rfl (dq_of (de_v 1)) (dq_of de_int))) (nomark _))))) h
theorem cal_is_swap {h : Heap} (X : K.In h) (G : h.Ns mainGlobals mg) (A : FunAt K "is_swap" s_is_swap) (B : Bt mg) (C_is_tuple_of : Callee P w K mg base "is_tuple_of" 1 m_is_tuple_of) (C_is_within : Callee P w K mg base "is_within" 2 m_is_within) : Callee P w K mg base "is_swap" 3 m_is_swap := by
  obtain ⟨f, fd, a, F⟩ := A
  exact ⟨f, fd, ["cups", "thing"], ok_is_swap F B C_is_tuple_of C_is_within, PySem.W.mg_of X G a, F.kp, F.binds fun _ _ _ _ _ _ us hl => match us, hl with | [_, _], _ => rfl⟩
abbrev s_raw_fewest : Stmt := topS 67
abbrev n_raw_fewest : List Str := ["line"]
theorem sc_raw_fewest : FnScope n_raw_fewest ["line"] (defScope s_raw_fewest) := ⟨rfl, rfl, rfl, by decide +kernel, rfl, by decide +kernel, by decide +kernel⟩
def m_raw_fewest : List D → Res D := runF 1 1 (sRet (e2 subD (eCall lenD (aCons (eV 0) aNil)) (eCall lenD (aCons (eFn (fun ds => noX (m_all_rounds ds)) (aCons (eV 0) aNil)) aNil))))
theorem ok_raw_fewest {f : Addr} {fd : FuncData} (F : Fun K "raw_fewest" "raw_fewest" s_raw_fewest f fd) (B : Bt mg) (C_all_rounds : Callee P w K mg base "all_rounds" 2 m_all_rounds) : FnOk P w K mg base CX0 3 f fd ["line"] (spD m_raw_fewest) := by
  refine F.ok sc_raw_fewest (fun vs H Q E h => spD_len h) (fun cdv A outer s H vs Q E hr h => ?_)
  have hu : (A.deeper (envOfC "raw_fewest" (defScope s_raw_fewest) s.heap.objs.size f cdv)).units + 64 < cLine := hr.units
  have hu1 : (A.deeper (envOfC "raw_fewest" (defScope s_raw_fewest) s.heap.objs.size f cdv)).units + 1 < cLine := hu_of hr
  have hu2 : (A.deeper (envOfC "raw_fewest" (defScope s_raw_fewest) s.heap.objs.size f cdv)).units + 65 < cLine := by have := hr.un; omega
  exact body_end (Nm := n_raw_fewest) (n := 1) rfl (dss_one (ds_ret (de_op o_sub nx_i2 (dq_of (de_callB (hn := by decide) (hdb := by decide) (he := rfl) (hpl := rfl) (k_len (K := K) rfl) nx_len rfl B.b_len (by decide +kernel) (db_cons (hs := rfl) (dq_of (de_v 0)) db_nil))) (dq_of (de_callB (hn := by decide) (hdb := by decide) (he := rfl) (hpl := rfl) (k_len (K := K) rfl) nx_len rfl B.b_len (by decide +kernel) (db_cons (hs := rfl) (dq_of (de_callC (hdb := by decide) (he := rfl) (hpl := rfl) C_all_rounds (hr.mono (by decide)) rfl (da_cons (hs := rfl) (de_v 0) da_nil))) db_nil)))))) h
theorem cal_raw_fewest {h : Heap} (X : K.In h) (G : h.Ns mainGlobals mg) (A : FunAt K "raw_fewest" s_raw_fewest) (B : Bt mg) (C_all_rounds : Callee P w K mg base "all_rounds" 2 m_all_rounds) : Callee P w K mg base "raw_fewest" 3 m_raw_fewest := by
  obtain ⟨f, fd, a, F⟩ := A
  exact ⟨f, fd, ["line"], ok_raw_fewest F B C_all_rounds, PySem.W.mg_of X G a, F.kp, F.binds fun _ _ _ _ _ _ us hl => match us, hl with | [_], _ => rfl⟩
abbrev s_is_order : Stmt := topS 5
abbrev n_is_order : List Str := ["thing", "many"]
theorem sc_is_order : FnScope n_is_order ["thing", "many"] (defScope s_is_order) := ⟨rfl, rfl, rfl, by decide +kernel, rfl, by decide +kernel, by decide +kernel⟩
def m_is_order : List D → Res D := runF 2 2 (sRet (eAnd (eFn (fun ds => noX (m_are_within ds)) (aCons (eV 0) (aCons (eC (.int 0)) (aCons (e2 subD (eV 1) (eC (.int 1))) aNil)))) (eAnd (e2 eqD (eCall lenD (aCons (eV 0) aNil)) (eV 1)) (e2 eqD (eCall sortedG (aCons (eV 0) aNil)) (eRgL (g1 (eV 1)))))))
theorem ok_is_order {f : Addr} {fd : FuncData} (F : Fun K "is_order" "is_order" s_is_order f fd) (B : Bt mg) (C_are_within : Callee P w K mg base "are_within" 3 m_are_within) : FnOk P w K mg base CX0 4 f fd ["thing", "many"] (spD m_is_order) := by
  refine F.ok sc_is_order (fun vs H Q E h => spD_len h) (fun cdv A outer s H vs Q E hr h => ?_)
  have hu : (A.deeper (envOfC "is_order" (defScope s_is_order) s.heap.objs.size f cdv)).units + 64 < cLine := hr.units
  have hu1 : (A.deeper (envOfC "is_order" (defScope s_is_order) s.heap.objs.size f cdv)).units + 1 < cLine := hu_of hr
  have hu2 : (A.deeper (envOfC "is_order" (defScope s_is_order) s.heap.objs.size f cdv)).units + 65 < cLine := by have := hr.un; omega
  exact body_end (Nm := n_is_order) (n := 2) rfl (dss_one (ds_ret (de_and (de_callC (hdb := by decide) (he := rfl) (hpl := rfl) C_are_within (hr.mono (by decide)) rfl (da_cons (hs := rfl) (de_v 0) (da_cons (hs := rfl) de_int (da_cons (hs := rfl) (de_op o_sub nx_i2 (dq_of (de_v 1)) (dq_of de_int)) da_nil)))) (de_and (de_cmp (k_eq (K := K) rfl hu) nx_eq (dq_of (de_callB (hn := by decide) (hdb := by decide) (he := rfl) (hpl := rfl) (k_len (K := K) rfl) nx_len rfl B.b_len (by decide +kernel) (db_cons (hs := rfl) (dq_of (de_v 0)) db_nil))) (dq_of (de_v 1)) (nomark _)) (de_one (de_cmp (k_eq (K := K) rfl hu) nx_eq (dq_of (de_of (dn_callB (hn := by decide) (hdb := by decide) (he := rfl) (hpl := rfl) (k_sortedG (K := K) rfl rfl hu) nx_sortedG rfl B.b_sorted (by decide +kernel) (db_cons (hs := rfl) (dq_of (de_v 0)) db_nil)))) (dq_of (de_of (dn_listRg (na := rfl) rfl rfl B.b_list (dr_1 (na := rfl) rfl B.b_range (dq_of (de_v 1)))))) (nomark _))))))) h
theorem cal_is_order {h : Heap} (X : K.In h) (G : h.Ns mainGlobals mg) (A : FunAt K "is_order" s_is_order) (B : Bt mg) (C_are_within : Callee P w K mg base "are_within" 3 m_are_within) : Callee P w K mg base "is_order" 4 m_is_order := by
  obtain ⟨f, fd, a, F⟩ := A
  exact ⟨f, fd, ["thing", "many"], ok_is_order F B C_are_within, PySem.W.mg_of X G a, F.kp, F.binds fun _ _ _ _ _ _ us hl => match us, hl with | [_, _], _ => rfl⟩
abbrev s_check_throws : Stmt := topS 23
abbrev n_check_throws : List Str := ["throws"]
theorem sc_check_throws : FnScope n_check_throws ["throws"] (defScope s_check_throws) := ⟨rfl, rfl, rfl, by decide +kernel, rfl, by decide +kernel, by decide +kernel⟩
def m_check_throws : List D → Res D := runF 1 1 (sIf (tNotF (tst (eFn (fun ds => noX (m_are_throws ds)) (aCons (eV 0) aNil)))) sStk sNil)
theorem ok_check_throws {f : Addr} {fd : FuncData} (F : Fun K "check_throws" "check_throws" s_check_throws f fd) (B : Bt mg) (C_are_throws : Callee P w K mg base "are_throws" 3 m_are_throws) : FnOk P w K mg base CX0 4 f fd ["throws"] (spD m_check_throws) := by
  refine F.ok sc_check_throws (fun vs H Q E h => spD_len h) (fun cdv A outer s H vs Q E hr h => ?_)
  have hu : (A.deeper (envOfC "check_throws" (defScope s_check_throws) s.heap.objs.size f cdv)).units + 64 < cLine := hr.units
  have hu1 : (A.deeper (envOfC "check_throws" (defScope s_check_throws) s.heap.objs.size f cdv)).units + 1 < cLine := hu_of hr
  have hu2 : (A.deeper (envOfC "check_throws" (defScope s_check_throws) s.heap.objs.size f cdv)).units + 65 < cLine := by have := hr.un; omega
  exact body_end (Nm := n_check_throws) (n := 1) rfl (dss_one (ds_if (dt_not (dt_val (he := fun _ => rfl) (de_callC (hdb := by decide) (he := rfl) (hpl := rfl) C_are_throws (hr.mono (by decide)) rfl (da_cons (hs := rfl) (de_v 0) da_nil)))) (dss_one ds_never) dss_nil)) h
theorem cal_check_throws {h : Heap} (X : K.In h) (G : h.Ns mainGlobals mg) (A : FunAt K "check_throws" s_check_throws) (B : Bt mg) (C_are_throws : Callee P w K mg base "are_throws" 3 m_are_throws) : Callee P w K mg base "check_throws" 4 m_check_throws := by
  obtain ⟨f, fd, a, F⟩ := A
  exact ⟨f, fd, ["throws"], ok_check_throws F B C_are_throws, PySem.W.mg_of X G a, F.kp, F.binds fun _ _ _ _ _ _ us hl => match us, hl with | [_], _ => rfl⟩
abbrev s_shortest_to : Stmt := topS 34
abbrev n_shortest_to : List Str := ["begin", "beside", "is_goal", "known", "front", "later", "here", "row", "step", "other"]
theorem sc_shortest_to : FnScope n_shortest_to ["begin", "beside", "is_goal"] (defScope s_shortest_to) := ⟨rfl, rfl, rfl, by decide +kernel, rfl, by decide +kernel, by decide +kernel⟩
def g_shortest_to (l0 l1 : List D → Res D) : FS Unit := (sSeq (sPar 3 4 (mOw (eDisp1 (eV 0) (eC (.bool true))) (mFr (eLst (aCons (eTup (aCons (eV 0) (aCons (eTup aNil) aNil))) aNil)) mNil))) (sSeq (sWhile 1000 (tst (e2 gtD (eCall lenD (aCons (eV 4) aNil)) (eC (.int 0)))) (sSeq (sSetN 5 (eLst aNil)) (sSeq (sFor (iSeq (eV 4)) (tgT (tgCons (tgN 6) (tgCons (tgN 7) tgNil))) (sSeq (sIf (tst (eFnV 2 1 l1 (eV 6))) (sRet (eTup (aCons (eV 6) (aCons (eV 7) aNil)))) sNil) (sFor (iSeq (eFnV 1 0 l0 (eV 6))) (tgT (tgCons (tgN 8) (tgCons (tgN 9) tgNil))) (sIf (tst (eDin true (eV 9) (eVq 3))) (sSeq (sDput 3 (eV 9) (eC (.bool true))) (sApp 5 (eTup (aCons (eV 9) (aCons (e2 addD (eV 7) (eTup (aCons (eV 8) aNil))) aNil))))) sNil)))) (sFz 5 (sSet 4 (eV 5)))))) (sRet (eC .none))))
def gm_shortest_to : List (List D → Res D) → FS Unit := fun ms => match ms with | [l0, l1] => g_shortest_to l0 l1 | _ => sStk
def m_shortest_to : List (List D → Res D) → List D → Res D := fun ms ds => runV 1 2 10 (gm_shortest_to ms) ds
theorem cal_shortest_to {h : Heap} (X : K.In h) (G : h.Ns mainGlobals mg) (A : FunAt K "shortest_to" s_shortest_to) (B : Bt mg)  : CalleeL P w K mg base "shortest_to" 3 1 2 m_shortest_to := by
  obtain ⟨f, fd, a, F⟩ := A
  refine ⟨f, fd, ["begin", "beside", "is_goal"], PySem.W.mg_of X G a, F.kp, F.binds fun _ _ _ _ _ _ us hl => match us, hl with | [_, _, _], _ => rfl, rfl, okL (k := 3) (gm := gm_shortest_to) F sc_shortest_to rfl fun cdv A outer s H fs cs ms low hr hL hl => ?_⟩
  obtain ⟨f0, f1, c0, c1, l0, l1, rfl, rfl, rfl, ⟨L0⟩, ⟨L1⟩⟩ := lams2 hL hl
  have hu : (A.deeper (envOfC "shortest_to" (defScope s_shortest_to) s.heap.objs.size f cdv)).units + 64 < cLine := hr.units
  have hu1 : (A.deeper (envOfC "shortest_to" (defScope s_shortest_to) s.heap.objs.size f cdv)).units + 1 < cLine := hu_of hr
  have hu2 : (A.deeper (envOfC "shortest_to" (defScope s_shortest_to) s.heap.objs.size f cdv)).units + 65 < cLine := by have := hr.un; omega
  exact ⟨_, (show DSs _ _ _ _ (g_shortest_to l0 l1) from (dss_cons (ds_par (hs := rfl) (i := 3) (j := 4) rfl sc_shortest_to.nd rfl rfl (by decide) rfl rfl (dm_ow (hs := rfl) (dn_disp1 hu1 (de_v 0) de_bl) (dm_fr (hs := rfl) (de_of (dn_lst (da_cons (hs := rfl) (de_tup (da_cons (hs := rfl) (de_v 0) (da_cons (hs := rfl) (de_tup da_nil) da_nil))) da_nil))) dm_nil)) (by rfl)) (dss_cons (ds_while 1000 PassesOwn.never (dt_cmp o_gt nx_c2 (dq_of (de_callB (hn := by decide) (hdb := by decide) (he := rfl) (hpl := rfl) (k_len (K := K) rfl) nx_len rfl B.b_len (by decide +kernel) (db_cons (hs := rfl) (dq_of (de_v 4)) db_nil))) (dq_of de_int) (nomark _)) (dss_cons (ds_setN (hs := rfl) (hf := .inl rfl) (i := 5) sc_shortest_to.nd rfl (by first | exact .inl rfl | exact .inr rfl) (dn_lst da_nil)) (dss_cons (ds_for (hs := fun _ => rfl) PassesOwn.never rfl (k_seq (K := K) rfl (de_v 4)) (ggtK (K := K) rfl rfl (by rfl) (by rfl) (tl_cons (tl_cons tl_nil)) (fun ds η w c _ => (ng_cons (ng_n 6) (ng_cons (ng_n 7) ng_nil)).2 ds η w c) (ggs (by rfl) (dg_name (i := 6) sc_shortest_to.nd rfl (by first | exact .inl rfl | exact .inr rfl)) (ggs (by rfl) (dg_name (i := 7) sc_shortest_to.nd rfl (by first | exact .inl rfl | exact .inr rfl)) dgs_nil))) (dss_cons (ds_if (dt_val (he := fun _ => rfl) (de_callV L1 1 rfl (List.mem_cons_of_mem _ List.mem_cons_self) rfl hr (Nat.le_refl _) 2 rfl (by first | exact Or.inl rfl | exact Or.inr (Or.inl rfl) | exact Or.inr (Or.inr rfl)) (de_v 6) (by decide) (by decide) rfl rfl)) (dss_one (ds_ret (de_tup (da_cons (hs := rfl) (de_v 6) (da_cons (hs := rfl) (de_v 7) da_nil))))) dss_nil) (dss_one (ds_for (hs := fun _ => rfl) PassesOwn.never rfl (k_seq (K := K) rfl (de_callV L0 0 rfl List.mem_cons_self rfl hr (Nat.le_refl _) 1 rfl (by first | exact Or.inl rfl | exact Or.inr (Or.inl rfl) | exact Or.inr (Or.inr rfl)) (de_v 6) (by decide) (by decide) rfl rfl)) (ggtK (K := K) rfl rfl (by rfl) (by rfl) (tl_cons (tl_cons tl_nil)) (fun ds η w c _ => (ng_cons (ng_n 8) (ng_cons (ng_n 9) ng_nil)).2 ds η w c) (ggs (by rfl) (dg_name (i := 8) sc_shortest_to.nd rfl (by first | exact .inl rfl | exact .inr rfl)) (ggs (by rfl) (dg_name (i := 9) sc_shortest_to.nd rfl (by first | exact .inl rfl | exact .inr rfl)) dgs_nil))) (dss_one (ds_if (dt_dnin (h1 := by with_unfolding_all rfl) hu1 (dq_of (de_v 9)) (dq_v 3)) (dss_cons (ds_dput (hN := rfl) (hvis := by first | exact Or.inl rfl | exact Or.inr (Or.inl rfl)) (hs := rfl) (hd := by decide) (hcd := by decide) hu1 3 (hk := (dq_of (de_v 9))) (hv := de_bl)) (dss_one (ds_app (hN := rfl) (hv := by first | exact Or.inl rfl | exact Or.inr (Or.inl rfl)) (hb := rfl) (hf := rfl) (hl := rfl) (hs := rfl) (hp := rfl) (hsw := rfl) (hd := by decide) (hcd := by decide) 5 (he := (de_tup (da_cons (hs := rfl) (de_v 9) (da_cons (hs := rfl) (de_op (k_add (K := K) rfl) nx_add (dq_of (de_v 7)) (dq_of (de_tup (da_cons (hs := rfl) (de_v 8) da_nil)))) da_nil))))))) dss_nil)))))) (dss_one (ds_fz 5 (ds_set (hs := rfl) (hf := .inl rfl) (i := 4) sc_shortest_to.nd rfl (by first | exact .inl rfl | exact .inr rfl) (de_v 5))))))) (dss_one (ds_ret de_non)))))⟩
abbrev s_is_right_word : Stmt := topS 42
abbrev n_is_right_word : List Str := ["commands", "thing"]
theorem sc_is_right_word : FnScope n_is_right_word ["commands", "thing"] (defScope s_is_right_word) := ⟨rfl, rfl, rfl, by decide +kernel, rfl, by decide +kernel, by decide +kernel⟩
def m_is_right_word : List D → Res D := runF 2 2 (sRet (eAnd (eFn (fun ds => noX (m_are_within ds)) (aCons (eV 1) (aCons (eC (.int 0)) (aCons (e2 subD (eCall lenD (aCons (eV 0) aNil)) (eC (.int 1))) aNil)))) (e2 leD (eCall lenD (aCons (eV 1) aNil)) (eC (.int 50)))))
theorem ok_is_right_word {f : Addr} {fd : FuncData} (F : Fun K "is_right_word" "is_right_word" s_is_right_word f fd) (B : Bt mg) (C_are_within : Callee P w K mg base "are_within" 3 m_are_within) : FnOk P w K mg base CX0 4 f fd ["commands", "thing"] (spD m_is_right_word) := by
  refine F.ok sc_is_right_word (fun vs H Q E h => spD_len h) (fun cdv A outer s H vs Q E hr h => ?_)
  have hu : (A.deeper (envOfC "is_right_word" (defScope s_is_right_word) s.heap.objs.size f cdv)).units + 64 < cLine := hr.units
  have hu1 : (A.deeper (envOfC "is_right_word" (defScope s_is_right_word) s.heap.objs.size f cdv)).units + 1 < cLine := hu_of hr
  have hu2 : (A.deeper (envOfC "is_right_word" (defScope s_is_right_word) s.heap.objs.size f cdv)).units + 65 < cLine := by have := hr.un; omega
  exact body_end (Nm := n_is_right_word) (n := 2) rfl (dss_one (ds_ret (de_and (de_callC (hdb := by decide) (he := rfl) (hpl := rfl) C_are_within (hr.mono (by decide)) rfl (da_cons (hs := rfl) (de_v 1) (da_cons (hs := rfl) de_int (da_cons (hs := rfl) (de_op o_sub nx_i2 (dq_of (de_callB (hn := by decide) (hdb := by decide) (he := rfl) (hpl := rfl) (k_len (K := K) rfl) nx_len rfl B.b_len (by decide +kernel) (db_cons (hs := rfl) (dq_of (de_v 0)) db_nil))) (dq_of de_int)) da_nil)))) (de_one (de_cmp o_le nx_c2 (dq_of (de_callB (hn := by decide) (hdb := by decide) (he := rfl) (hpl := rfl) (k_len (K := K) rfl) nx_len rfl B.b_len (by decide +kernel) (db_cons (hs := rfl) (dq_of (de_v 1)) db_nil))) (dq_of (de_globI rfl B.g_MOST_WORD)) (nomark _)))))) h
theorem cal_is_right_word {h : Heap} (X : K.In h) (G : h.Ns mainGlobals mg) (A : FunAt K "is_right_word" s_is_right_word) (B : Bt mg) (C_are_within : Callee P w K mg base "are_within" 3 m_are_within) : Callee P w K mg base "is_right_word" 4 m_is_right_word := by
  obtain ⟨f, fd, a, F⟩ := A
  exact ⟨f, fd, ["commands", "thing"], ok_is_right_word F B C_are_within, PySem.W.mg_of X G a, F.kp, F.binds fun _ _ _ _ _ _ us hl => match us, hl with | [_, _], _ => rfl⟩
def ml_stands_from_0 : List D → List D → Res D := runE 1 3 (eLc (iSeq (eV 1)) [2] (tgN 2) tYesF (eFn (fun ds => noX (m_moved_by ds)) (aCons (eV 2) (aCons (eV 0) aNil))))
abbrev s_stands_from : Stmt := topS 50
abbrev n_stands_from : List Str := ["commands", "stand"]
theorem sc_stands_from : FnScope n_stands_from ["commands", "stand"] (defScope s_stands_from) := ⟨rfl, rfl, rfl, by decide +kernel, rfl, by decide +kernel, by decide +kernel⟩
def m_stands_from : List D → Res D := runF 2 2 (sRet (eFnL m_hanging_with [([0], ml_stands_from_0)] (eV 1)))
theorem ok_stands_from {f : Addr} {fd : FuncData} {c_stands_from P_stands_from : Addr} (F : FunC K "stands_from" s_stands_from f fd c_stands_from) (B : Bt mg) (C_hanging_with : CalleeL P w K mg base "hanging_with" 2 1 1 m_hanging_with) (C_moved_by : Callee P w K mg base "moved_by" 1 m_moved_by) (TA_stands_from : TabAt base mg T "stands_from" c_stands_from P_stands_from) : FnOk P w K mg base CX0 4 f fd ["commands", "stand"] (spT T m_stands_from) := by
  refine F.ok sc_stands_from (fun vs H Q E h => spT_len h) (fun A outer s H vs Q E hr h => ?_)
  have hu : (A.deeper (envOfC "stands_from" (defScope s_stands_from) s.heap.objs.size f (.ref c_stands_from))).units + 64 < cLine := hr.units
  have hu1 : (A.deeper (envOfC "stands_from" (defScope s_stands_from) s.heap.objs.size f (.ref c_stands_from))).units + 1 < cLine := hu_of hr
  have hu2 : (A.deeper (envOfC "stands_from" (defScope s_stands_from) s.heap.objs.size f (.ref c_stands_from))).units + 65 < cLine := by have := hr.un; omega
  exact body_endT (Nm := n_stands_from) (n := 2) rfl (dss_one (ds_ret (de_callL (T := T) (ls := [([0], ml_stands_from_0)]) C_hanging_with (hr.mono (by decide)) rfl TA_stands_from.tb rfl TA_stands_from.mem TA_stands_from.un (de_v 1) (LmDs.cons ⟨_, _, _, _, ["here"], ["commands"], rfl, rfl, fun f c' => lokLC (N := ["here", "commands", "order"]) (nscopeC_by (by dsimp only [mkLm]; decide +kernel)) (fun _ _ => rfl) (fun _ => rfl) (fun _ _ us hl => match us, hl with | [_], _ => rfl) (fun A outer s H E low hr => by have hu := hr.units; have hu1 := hu_of hr; exact ⟨_, (de_of (dn_lc (hs := fun _ => rfl) rfl (show List.Nodup (["here", "commands", "order"] : List Str) by decide) (own := [("order", 2)]) (g := (gName 2)) (dj_of (k_seq (K := K) rfl (de_v 1))) (blkOk_by (own := [("order", 2)]) (N := (["here", "commands", "order"] : List Str))  (by kernel_rfl)) (fun _ _ _ _ _ => (dgn_name (i := 2) (show List.Nodup (["here", "commands", "order"] : List Str) by decide) rfl (by first | exact .inl rfl | exact .inr rfl))) (ng_n 2) (by decide) (fun _ _ _ _ _ => dts_nil) (fun _ _ _ _ _ => (de_callC (hdb := by decide) (he := rfl) (hpl := rfl) C_moved_by (hr.mono (by decide)) rfl (da_cons (hs := rfl) (de_v 2) (da_cons (hs := rfl) (de_v 0) da_nil))))))⟩), rfl, ndef_free (fr := ["commands"]) (by kernel_rfl), ndef_fr (sc := defScope s_stands_from) (by kernel_rfl), rfl⟩ rfl LmDs.nil) (by decide) rfl rfl))) h
theorem cal_stands_from {h : Heap} {c_stands_from P_stands_from : Addr} (X : K.In h) (G : h.Ns mainGlobals mg) (A : MakAt K "stands_from" s_stands_from c_stands_from) (B : Bt mg) (C_hanging_with : CalleeL P w K mg base "hanging_with" 2 1 1 m_hanging_with) (C_moved_by : Callee P w K mg base "moved_by" 1 m_moved_by) (TA_stands_from : TabAt base mg T "stands_from" c_stands_from P_stands_from) : CalleeT P w K mg base T "stands_from" 4 m_stands_from := by
  obtain ⟨f, fd, a, F⟩ := A
  exact ⟨f, fd, ["commands", "stand"], ok_stands_from F B C_hanging_with C_moved_by TA_stands_from, PySem.W.mg_of X G a, F.kp, F.fn.binds fun _ _ _ _ _ _ us hl => match us, hl with | [_, _], _ => rfl⟩
abbrev s_check_swaps : Stmt := topS 61
abbrev n_check_swaps : List Str := ["cups", "swaps", "swap"]
theorem sc_check_swaps : FnScope n_check_swaps ["cups", "swaps"] (defScope s_check_swaps) := ⟨rfl, rfl, rfl, by decide +kernel, rfl, by decide +kernel, by decide +kernel⟩
def m_check_swaps : List D → Res D := runF 2 3 (sIf (tOrF (tNotF (tst (e1 (isiD' "tuple") (eV 1)))) (tOrF (tst (e2 gtD (eCall lenD (aCons (eV 1) aNil)) (eC (.int 50)))) (tNotF (tst (eCall allD (aCons (eLc (iSeq (eV 1)) [2] (tgN 2) tYesF (eFn (fun ds => noX (m_is_swap ds)) (aCons (eV 0) (aCons (eV 2) aNil)))) aNil)))))) sStk sNil)
theorem ok_check_swaps {f : Addr} {fd : FuncData} (F : Fun K "check_swaps" "check_swaps" s_check_swaps f fd) (B : Bt mg) (C_is_swap : Callee P w K mg base "is_swap" 3 m_is_swap) : FnOk P w K mg base CX0 4 f fd ["cups", "swaps"] (spD m_check_swaps) := by
  refine F.ok sc_check_swaps (fun vs H Q E h => spD_len h) (fun cdv A outer s H vs Q E hr h => ?_)
  have hu : (A.deeper (envOfC "check_swaps" (defScope s_check_swaps) s.heap.objs.size f cdv)).units + 64 < cLine := hr.units
  have hu1 : (A.deeper (envOfC "check_swaps" (defScope s_check_swaps) s.heap.objs.size f cdv)).units + 1 < cLine := hu_of hr
  have hu2 : (A.deeper (envOfC "check_swaps" (defScope s_check_swaps) s.heap.objs.size f cdv)).units + 65 < cLine := by have := hr.un; omega
  exact body_end (Nm := n_check_swaps) (n := 2) rfl (dss_one (ds_if (dt_of (dw_or (dt_not (dt_val (he := fun _ => rfl) (k_isi (hn2 := by decide) (hd2 := by decide) (s1 := rfl) (s2 := rfl) (hpl := rfl) (K := K) rfl rfl B.b_isinstance (by decide +kernel) rfl B.b_tuple (by decide +kernel) (dq_of (de_v 1))))) (dw_or (dt_cmp o_gt nx_c2 (dq_of (de_callB (hn := by decide) (hdb := by decide) (he := rfl) (hpl := rfl) (k_len (K := K) rfl) nx_len rfl B.b_len (by decide +kernel) (db_cons (hs := rfl) (dq_of (de_v 1)) db_nil))) (dq_of (de_globI rfl B.g_MOST_SWAPS)) (nomark _)) (dw_or1 (dt_not (dt_val (he := fun _ => rfl) (de_callB (hn := by decide) (hdb := by decide) (he := rfl) (hpl := rfl) (k_all (K := K) rfl rfl) nx_all rfl B.b_all (by decide +kernel) (db_cons (hs := rfl) (dq_of (de_of (dn_lc (hs := fun _ => rfl) rfl sc_check_swaps.nd (own := [("swap", 2)]) (g := (gName 2)) (dj_of (k_seq (K := K) rfl (de_v 1))) (blkOk_by (own := [("swap", 2)]) (N := n_check_swaps) (sc := defScope s_check_swaps) (by decide +kernel)) (fun _ _ _ _ _ => (dgn_name (i := 2) sc_check_swaps.nd rfl (by first | exact .inl rfl | exact .inr rfl))) (ng_n 2) (by decide) (fun _ _ _ _ _ => dts_nil) (fun _ _ _ _ _ => (de_callC (hdb := by decide) (he := rfl) (hpl := rfl) C_is_swap (hr.mono (by decide)) rfl (da_cons (hs := rfl) (de_v 0) (da_cons (hs := rfl) (de_v 2) da_nil))))))) db_nil)))))))) (dss_one ds_never) dss_nil)) h
theorem cal_check_swaps {h : Heap} (X : K.In h) (G : h.Ns mainGlobals mg) (A : FunAt K "check_swaps" s_check_swaps) (B : Bt mg) (C_is_swap : Callee P w K mg base "is_swap" 3 m_is_swap) : Callee P w K mg base "check_swaps" 4 m_check_swaps := by
  obtain ⟨f, fd, a, F⟩ := A
  exact ⟨f, fd, ["cups", "swaps"], ok_check_swaps F B C_is_swap, PySem.W.mg_of X G a, F.kp, F.binds fun _ _ _ _ _ _ us hl => match us, hl with | [_, _], _ => rfl⟩
abbrev s_check_horses : Stmt := topS 77
abbrev n_check_horses : List Str := ["thing"]
theorem sc_check_horses : FnScope n_check_horses ["thing"] (defScope s_check_horses) := ⟨rfl, rfl, rfl, by decide +kernel, rfl, by decide +kernel, by decide +kernel⟩
def m_check_horses : List D → Res D := runF 1 1 (sIf (tOrF (tNotF (tst (eFn (fun ds => noX (m_are_within ds)) (aCons (eV 0) (aCons (eC (.int 0)) (aCons (eC (.int 5)) aNil)))))) (tNotF (tst (eChain leD leD (eC (.int 1)) (eCall lenD (aCons (eV 0) aNil)) (eC (.int 10)))))) sStk sNil)
theorem ok_check_horses {f : Addr} {fd : FuncData} (F : Fun K "check_horses" "check_horses" s_check_horses f fd) (B : Bt mg) (C_are_within : Callee P w K mg base "are_within" 3 m_are_within) : FnOk P w K mg base CX0 4 f fd ["thing"] (spD m_check_horses) := by
  refine F.ok sc_check_horses (fun vs H Q E h => spD_len h) (fun cdv A outer s H vs Q E hr h => ?_)
  have hu : (A.deeper (envOfC "check_horses" (defScope s_check_horses) s.heap.objs.size f cdv)).units + 64 < cLine := hr.units
  have hu1 : (A.deeper (envOfC "check_horses" (defScope s_check_horses) s.heap.objs.size f cdv)).units + 1 < cLine := hu_of hr
  have hu2 : (A.deeper (envOfC "check_horses" (defScope s_check_horses) s.heap.objs.size f cdv)).units + 65 < cLine := by have := hr.un; omega
  exact body_end (Nm := n_check_horses) (n := 1) rfl (dss_one (ds_if (dt_of (dw_or (dt_not (dt_val (he := fun _ => rfl) (de_callC (hdb := by decide) (he := rfl) (hpl := rfl) C_are_within (hr.mono (by decide)) rfl (da_cons (hs := rfl) (de_v 0) (da_cons (hs := rfl) de_int (da_cons (hs := rfl) (de_globI rfl B.g_MOST_COLOUR) da_nil)))))) (dw_or1 (dt_not (dt_chain (hm := by with_unfolding_all rfl) o_le nx_c2 o_le nx_c2 (dq_of de_int) (dq_of (de_callB (hn := by decide) (hdb := by decide) (he := rfl) (hpl := rfl) (k_len (K := K) rfl) nx_len rfl B.b_len (by decide +kernel) (db_cons (hs := rfl) (dq_of (de_v 0)) db_nil))) (dq_of (de_globI rfl B.g_MOST_HORSES_horses))))))) (dss_one ds_never) dss_nil)) h
theorem cal_check_horses {h : Heap} (X : K.In h) (G : h.Ns mainGlobals mg) (A : FunAt K "check_horses" s_check_horses) (B : Bt mg) (C_are_within : Callee P w K mg base "are_within" 3 m_are_within) : Callee P w K mg base "check_horses" 4 m_check_horses := by
  obtain ⟨f, fd, a, F⟩ := A
  exact ⟨f, fd, ["thing"], ok_check_horses F B C_are_within, PySem.W.mg_of X G a, F.kp, F.binds fun _ _ _ _ _ _ us hl => match us, hl with | [_], _ => rfl⟩
abbrev s_clash : Stmt := topS 27
abbrev n_clash : List Str := ["throws"]
theorem sc_clash : FnScope n_clash ["throws"] (defScope s_clash) := ⟨rfl, rfl, rfl, by decide +kernel, rfl, by decide +kernel, by decide +kernel⟩
def m_clash : List D → Res D := runF 1 1 (sSeq (sDrop (eFn (fun ds => noX (m_check_throws ds)) (aCons (eV 0) aNil))) (sRet (eFn (fun ds => noX (m_raw_clash ds)) (aCons (eV 0) aNil))))
theorem ok_clash {f : Addr} {fd : FuncData} (F : Fun K "clash" "clash" s_clash f fd) (B : Bt mg) (C_check_throws : Callee P w K mg base "check_throws" 4 m_check_throws) (C_raw_clash : Callee P w K mg base "raw_clash" 3 m_raw_clash) : FnOk P w K mg base CX0 5 f fd ["throws"] (spD m_clash) := by
  refine F.ok sc_clash (fun vs H Q E h => spD_len h) (fun cdv A outer s H vs Q E hr h => ?_)
  have hu : (A.deeper (envOfC "clash" (defScope s_clash) s.heap.objs.size f cdv)).units + 64 < cLine := hr.units
  have hu1 : (A.deeper (envOfC "clash" (defScope s_clash) s.heap.objs.size f cdv)).units + 1 < cLine := hu_of hr
  have hu2 : (A.deeper (envOfC "clash" (defScope s_clash) s.heap.objs.size f cdv)).units + 65 < cLine := by have := hr.un; omega
  exact body_end (Nm := n_clash) (n := 1) rfl (dss_cons (ds_expr (hs := rfl) (de_callC (hdb := by decide) (he := rfl) (hpl := rfl) C_check_throws (hr.mono (by decide)) rfl (da_cons (hs := rfl) (de_v 0) da_nil))) (dss_one (ds_ret (de_callC (hdb := by decide) (he := rfl) (hpl := rfl) C_raw_clash (hr.mono (by decide)) rfl (da_cons (hs := rfl) (de_v 0) da_nil))))) h
theorem cal_clash {h : Heap} (X : K.In h) (G : h.Ns mainGlobals mg) (A : FunAt K "clash" s_clash) (B : Bt mg) (C_check_throws : Callee P w K mg base "check_throws" 4 m_check_throws) (C_raw_clash : Callee P w K mg base "raw_clash" 3 m_raw_clash) : Callee P w K mg base "clash" 5 m_clash := by
  obtain ⟨f, fd, a, F⟩ := A
  exact ⟨f, fd, ["throws"], ok_clash F B C_check_throws C_raw_clash, PySem.W.mg_of X G a, F.kp, F.binds fun _ _ _ _ _ _ us hl => match us, hl with | [_], _ => rfl⟩
abbrev s_check_pattern : Stmt := topS 28
abbrev n_check_pattern : List Str := ["throws"]
theorem sc_check_pattern : FnScope n_check_pattern ["throws"] (defScope s_check_pattern) := ⟨rfl, rfl, rfl, by decide +kernel, rfl, by decide +kernel, by decide +kernel⟩
def m_check_pattern : List D → Res D := runF 1 1 (sSeq (sDrop (eFn (fun ds => noX (m_check_throws ds)) (aCons (eV 0) aNil))) (sIf (tst (e2 isnD (eFn (fun ds => noX (m_raw_clash ds)) (aCons (eV 0) aNil)) (eC .none))) sStk sNil))
theorem ok_check_pattern {f : Addr} {fd : FuncData} (F : Fun K "check_pattern" "check_pattern" s_check_pattern f fd) (B : Bt mg) (C_check_throws : Callee P w K mg base "check_throws" 4 m_check_throws) (C_raw_clash : Callee P w K mg base "raw_clash" 3 m_raw_clash) : FnOk P w K mg base CX0 5 f fd ["throws"] (spD m_check_pattern) := by
  refine F.ok sc_check_pattern (fun vs H Q E h => spD_len h) (fun cdv A outer s H vs Q E hr h => ?_)
  have hu : (A.deeper (envOfC "check_pattern" (defScope s_check_pattern) s.heap.objs.size f cdv)).units + 64 < cLine := hr.units
  have hu1 : (A.deeper (envOfC "check_pattern" (defScope s_check_pattern) s.heap.objs.size f cdv)).units + 1 < cLine := hu_of hr
  have hu2 : (A.deeper (envOfC "check_pattern" (defScope s_check_pattern) s.heap.objs.size f cdv)).units + 65 < cLine := by have := hr.un; omega
  exact body_end (Nm := n_check_pattern) (n := 1) rfl (dss_cons (ds_expr (hs := rfl) (de_callC (hdb := by decide) (he := rfl) (hpl := rfl) C_check_throws (hr.mono (by decide)) rfl (da_cons (hs := rfl) (de_v 0) da_nil))) (dss_one (ds_if (dt_cmp o_isn nx_isn (dq_of (de_callC (hdb := by decide) (he := rfl) (hpl := rfl) C_raw_clash (hr.mono (by decide)) rfl (da_cons (hs := rfl) (de_v 0) da_nil))) (dq_of de_non) (nomark _)) (dss_one ds_never) dss_nil))) h
theorem cal_check_pattern {h : Heap} (X : K.In h) (G : h.Ns mainGlobals mg) (A : FunAt K "check_pattern" s_check_pattern) (B : Bt mg) (C_check_throws : Callee P w K mg base "check_throws" 4 m_check_throws) (C_raw_clash : Callee P w K mg base "raw_clash" 3 m_raw_clash) : Callee P w K mg base "check_pattern" 5 m_check_pattern := by
  obtain ⟨f, fd, a, F⟩ := A
  exact ⟨f, fd, ["throws"], ok_check_pattern F B C_check_throws C_raw_clash, PySem.W.mg_of X G a, F.kp, F.binds fun _ _ _ _ _ _ us hl => match us, hl with | [_], _ => rfl⟩
abbrev s_turned : Stmt := topS 30
abbrev n_turned : List Str := ["throws", "many", "begin"]
theorem sc_turned : FnScope n_turned ["throws", "many"] (defScope s_turned) := ⟨rfl, rfl, rfl, by decide +kernel, rfl, by decide +kernel, by decide +kernel⟩
def m_turned : List D → Res D := runF 2 3 (sSeq (sDrop (eFn (fun ds => noX (m_check_throws ds)) (aCons (eV 0) aNil))) (sSeq (sIf (tNotF (tst (eFn (fun ds => noX (m_is_within ds)) (aCons (eV 1) (aCons (eC (.int 0)) (aCons (eC (.int 8)) aNil)))))) sStk sNil) (sSeq (sSet 2 (eFn (fun ds => noX (m_beat_of ds)) (aCons (eV 1) (aCons (eCall lenD (aCons (eV 0) aNil)) aNil)))) (sRet (e2 addD (eSlice (eV 0) (oSome (eV 2)) oNone) (eSlice (eV 0) oNone (oSome (eV 2))))))))
theorem ok_turned {f : Addr} {fd : FuncData} (F : Fun K "turned" "turned" s_turned f fd) (B : Bt mg) (C_beat_of : Callee P w K mg base "beat_of" 1 m_beat_of) (C_check_throws : Callee P w K mg base "check_throws" 4 m_check_throws) (C_is_within : Callee P w K mg base "is_within" 2 m_is_within) : FnOk P w K mg base CX0 5 f fd ["throws", "many"] (spD m_turned) := by
  refine F.ok sc_turned (fun vs H Q E h => spD_len h) (fun cdv A outer s H vs Q E hr h => ?_)
  have hu : (A.deeper (envOfC "turned" (defScope s_turned) s.heap.objs.size f cdv)).units + 64 < cLine := hr.units
  have hu1 : (A.deeper (envOfC "turned" (defScope s_turned) s.heap.objs.size f cdv)).units + 1 < cLine := hu_of hr
  have hu2 : (A.deeper (envOfC "turned" (defScope s_turned) s.heap.objs.size f cdv)).units + 65 < cLine := by have := hr.un; omega
  exact body_end (Nm := n_turned) (n := 2) rfl (dss_cons (ds_expr (hs := rfl) (de_callC (hdb := by decide) (he := rfl) (hpl := rfl) C_check_throws (hr.mono (by decide)) rfl (da_cons (hs := rfl) (de_v 0) da_nil))) (dss_cons (ds_if (dt_not (dt_val (he := fun _ => rfl) (de_callC (hdb := by decide) (he := rfl) (hpl := rfl) C_is_within (hr.mono (by decide)) rfl (da_cons (hs := rfl) (de_v 1) (da_cons (hs := rfl) de_int (da_cons (hs := rfl) (de_globI rfl B.g_MOST_BEATS) da_nil)))))) (dss_one ds_never) dss_nil) (dss_cons (ds_set (hs := rfl) (hf := .inl rfl) (i := 2) sc_turned.nd rfl (by first | exact .inl rfl | exact .inr rfl) (de_callC (hdb := by decide) (he := rfl) (hpl := rfl) C_beat_of (hr.mono (by decide)) rfl (da_cons (hs := rfl) (de_v 1) (da_cons (hs := rfl) (de_callB (hn := by decide) (hdb := by decide) (he := rfl) (hpl := rfl) (k_len (K := K) rfl) nx_len rfl B.b_len (by decide +kernel) (db_cons (hs := rfl) (dq_of (de_v 0)) db_nil)) da_nil)))) (dss_one (ds_ret (de_op (k_add (K := K) rfl) nx_add (dq_of (k_slice (K := K) rfl (dq_of (de_v 0)) (do_some (dq_of (de_v 2))) do_none)) (dq_of (k_slice (K := K) rfl (dq_of (de_v 0)) do_none (do_some (dq_of (de_v 2))))))))))) h
theorem cal_turned {h : Heap} (X : K.In h) (G : h.Ns mainGlobals mg) (A : FunAt K "turned" s_turned) (B : Bt mg) (C_beat_of : Callee P w K mg base "beat_of" 1 m_beat_of) (C_check_throws : Callee P w K mg base "check_throws" 4 m_check_throws) (C_is_within : Callee P w K mg base "is_within" 2 m_is_within) : Callee P w K mg base "turned" 5 m_turned := by
  obtain ⟨f, fd, a, F⟩ := A
  exact ⟨f, fd, ["throws", "many"], ok_turned F B C_beat_of C_check_throws C_is_within, PySem.W.mg_of X G a, F.kp, F.binds fun _ _ _ _ _ _ us hl => match us, hl with | [_, _], _ => rfl⟩
abbrev s_check_commands : Stmt := topS 40
abbrev n_check_commands : List Str := ["thing", "size", "order"]
theorem sc_check_commands : FnScope n_check_commands ["thing"] (defScope s_check_commands) := ⟨rfl, rfl, rfl, by decide +kernel, rfl, by decide +kernel, by decide +kernel⟩
def m_check_commands : List D → Res D := runF 1 3 (sSeq (sIf (tOrF (tNotF (tst (e1 (isiD' "tuple") (eV 0)))) (tOrF (tNotF (tst (eChain leD leD (eC (.int 1)) (eCall lenD (aCons (eV 0) aNil)) (eC (.int 3))))) (tNotF (tst (e1 (isiD' "tuple") (e2 ixD (eV 0) (eC (.int 0)))))))) sStk sNil) (sSeq (sSet 1 (eCall lenD (aCons (e2 ixD (eV 0) (eC (.int 0))) aNil))) (sIf (tOrF (tNotF (tst (eChain leD leD (eC (.int 2)) (eV 1) (eC (.int 4))))) (tNotF (tst (eCall allD (aCons (eLc (iSeq (eV 0)) [2] (tgN 2) tYesF (eFn (fun ds => noX (m_is_order ds)) (aCons (eV 2) (aCons (eV 1) aNil)))) aNil))))) sStk sNil)))
theorem ok_check_commands {f : Addr} {fd : FuncData} (F : Fun K "check_commands" "check_commands" s_check_commands f fd) (B : Bt mg) (C_is_order : Callee P w K mg base "is_order" 4 m_is_order) : FnOk P w K mg base CX0 5 f fd ["thing"] (spD m_check_commands) := by
  refine F.ok sc_check_commands (fun vs H Q E h => spD_len h) (fun cdv A outer s H vs Q E hr h => ?_)
  have hu : (A.deeper (envOfC "check_commands" (defScope s_check_commands) s.heap.objs.size f cdv)).units + 64 < cLine := hr.units
  have hu1 : (A.deeper (envOfC "check_commands" (defScope s_check_commands) s.heap.objs.size f cdv)).units + 1 < cLine := hu_of hr
  have hu2 : (A.deeper (envOfC "check_commands" (defScope s_check_commands) s.heap.objs.size f cdv)).units + 65 < cLine := by have := hr.un; omega
  exact body_end (Nm := n_check_commands) (n := 1) rfl (dss_cons (ds_if (dt_of (dw_or (dt_not (dt_val (he := fun _ => rfl) (k_isi (hn2 := by decide) (hd2 := by decide) (s1 := rfl) (s2 := rfl) (hpl := rfl) (K := K) rfl rfl B.b_isinstance (by decide +kernel) rfl B.b_tuple (by decide +kernel) (dq_of (de_v 0))))) (dw_or (dt_not (dt_chain (hm := by with_unfolding_all rfl) o_le nx_c2 o_le nx_c2 (dq_of de_int) (dq_of (de_callB (hn := by decide) (hdb := by decide) (he := rfl) (hpl := rfl) (k_len (K := K) rfl) nx_len rfl B.b_len (by decide +kernel) (db_cons (hs := rfl) (dq_of (de_v 0)) db_nil))) (dq_of (de_globI rfl B.g_MOST_COMMANDS)))) (dw_or1 (dt_not (dt_val (he := fun _ => rfl) (k_isi (hn2 := by decide) (hd2 := by decide) (s1 := rfl) (s2 := rfl) (hpl := rfl) (K := K) rfl rfl B.b_isinstance (by decide +kernel) rfl B.b_tuple (by decide +kernel) (dq_of (k_ix (hs := fun _ _ => rfl) (K := K) rfl (dq_of (de_v 0)) (dq_of de_int)))))))))) (dss_one ds_never) dss_nil) (dss_cons (ds_set (hs := rfl) (hf := .inl rfl) (i := 1) sc_check_commands.nd rfl (by first | exact .inl rfl | exact .inr rfl) (de_callB (hn := by decide) (hdb := by decide) (he := rfl) (hpl := rfl) (k_len (K := K) rfl) nx_len rfl B.b_len (by decide +kernel) (db_cons (hs := rfl) (dq_of (k_ix (hs := fun _ _ => rfl) (K := K) rfl (dq_of (de_v 0)) (dq_of de_int))) db_nil))) (dss_one (ds_if (dt_of (dw_or (dt_not (dt_chain (hm := by with_unfolding_all rfl) o_le nx_c2 o_le nx_c2 (dq_of (de_globI rfl B.g_LEAST_HORSES)) (dq_of (de_v 1)) (dq_of (de_globI rfl B.g_MOST_HORSES_commands)))) (dw_or1 (dt_not (dt_val (he := fun _ => rfl) (de_callB (hn := by decide) (hdb := by decide) (he := rfl) (hpl := rfl) (k_all (K := K) rfl rfl) nx_all rfl B.b_all (by decide +kernel) (db_cons (hs := rfl) (dq_of (de_of (dn_lc (hs := fun _ => rfl) rfl sc_check_commands.nd (own := [("order", 2)]) (g := (gName 2)) (dj_of (k_seq (K := K) rfl (de_v 0))) (blkOk_by (own := [("order", 2)]) (N := n_check_commands) (sc := defScope s_check_commands) (by decide +kernel)) (fun _ _ _ _ _ => (dgn_name (i := 2) sc_check_commands.nd rfl (by first | exact .inl rfl | exact .inr rfl))) (ng_n 2) (by decide) (fun _ _ _ _ _ => dts_nil) (fun _ _ _ _ _ => (de_callC (hdb := by decide) (he := rfl) (hpl := rfl) C_is_order (hr.mono (by decide)) rfl (da_cons (hs := rfl) (de_v 2) (da_cons (hs := rfl) (de_v 1) da_nil))))))) db_nil))))))) (dss_one ds_never) dss_nil)))) h
theorem cal_check_commands {h : Heap} (X : K.In h) (G : h.Ns mainGlobals mg) (A : FunAt K "check_commands" s_check_commands) (B : Bt mg) (C_is_order : Callee P w K mg base "is_order" 4 m_is_order) : Callee P w K mg base "check_commands" 5 m_check_commands := by
  obtain ⟨f, fd, a, F⟩ := A
  exact ⟨f, fd, ["thing"], ok_check_commands F B C_is_order, PySem.W.mg_of X G a, F.kp, F.binds fun _ _ _ _ _ _ us hl => match us, hl with | [_], _ => rfl⟩
abbrev s_check_stand : Stmt := topS 41
abbrev n_check_stand : List Str := ["commands", "stand"]
theorem sc_check_stand : FnScope n_check_stand ["commands", "stand"] (defScope s_check_stand) := ⟨rfl, rfl, rfl, by decide +kernel, rfl, by decide +kernel, by decide +kernel⟩
def m_check_stand : List D → Res D := runF 2 2 (sIf (tNotF (tst (eFn (fun ds => noX (m_is_order ds)) (aCons (eV 1) (aCons (eCall lenD (aCons (e2 ixD (eV 0) (eC (.int 0))) aNil)) aNil))))) sStk sNil)
theorem ok_check_stand {f : Addr} {fd : FuncData} (F : Fun K "check_stand" "check_stand" s_check_stand f fd) (B : Bt mg) (C_is_order : Callee P w K mg base "is_order" 4 m_is_order) : FnOk P w K mg base CX0 5 f fd ["commands", "stand"] (spD m_check_stand) := by
  refine F.ok sc_check_stand (fun vs H Q E h => spD_len h) (fun cdv A outer s H vs Q E hr h => ?_)
  have hu : (A.deeper (envOfC "check_stand" (defScope s_check_stand) s.heap.objs.size f cdv)).units + 64 < cLine := hr.units
  have hu1 : (A.deeper (envOfC "check_stand" (defScope s_check_stand) s.heap.objs.size f cdv)).units + 1 < cLine := hu_of hr
  have hu2 : (A.deeper (envOfC "check_stand" (defScope s_check_stand) s.heap.objs.size f cdv)).units + 65 < cLine := by have := hr.un; omega
  exact body_end (Nm := n_check_stand) (n := 2) rfl (dss_one (ds_if (dt_not (dt_val (he := fun _ => rfl) (de_callC (hdb := by decide) (he := rfl) (hpl := rfl) C_is_order (hr.mono (by decide)) rfl (da_cons (hs := rfl) (de_v 1) (da_cons (hs := rfl) (de_callB (hn := by decide) (hdb := by decide) (he := rfl) (hpl := rfl) (k_len (K := K) rfl) nx_len rfl B.b_len (by decide +kernel) (db_cons (hs := rfl) (dq_of (k_ix (hs := fun _ _ => rfl) (K := K) rfl (dq_of (de_v 0)) (dq_of de_int))) db_nil)) da_nil))))) (dss_one ds_never) dss_nil)) h
theorem cal_check_stand {h : Heap} (X : K.In h) (G : h.Ns mainGlobals mg) (A : FunAt K "check_stand" s_check_stand) (B : Bt mg) (C_is_order : Callee P w K mg base "is_order" 4 m_is_order) : Callee P w K mg base "check_stand" 5 m_check_stand := by
  obtain ⟨f, fd, a, F⟩ := A
  exact ⟨f, fd, ["commands", "stand"], ok_check_stand F B C_is_order, PySem.W.mg_of X G a, F.kp, F.binds fun _ _ _ _ _ _ us hl => match us, hl with | [_, _], _ => rfl⟩
abbrev s_check_word : Stmt := topS 43
abbrev n_check_word : List Str := ["commands", "word"]
theorem sc_check_word : FnScope n_check_word ["commands", "word"] (defScope s_check_word) := ⟨rfl, rfl, rfl, by decide +kernel, rfl, by decide +kernel, by decide +kernel⟩
def m_check_word : List D → Res D := runF 2 2 (sIf (tNotF (tst (eFn (fun ds => noX (m_is_right_word ds)) (aCons (eV 0) (aCons (eV 1) aNil))))) sStk sNil)
theorem ok_check_word {f : Addr} {fd : FuncData} (F : Fun K "check_word" "check_word" s_check_word f fd) (B : Bt mg) (C_is_right_word : Callee P w K mg base "is_right_word" 4 m_is_right_word) : FnOk P w K mg base CX0 5 f fd ["commands", "word"] (spD m_check_word) := by
  refine F.ok sc_check_word (fun vs H Q E h => spD_len h) (fun cdv A outer s H vs Q E hr h => ?_)
  have hu : (A.deeper (envOfC "check_word" (defScope s_check_word) s.heap.objs.size f cdv)).units + 64 < cLine := hr.units
  have hu1 : (A.deeper (envOfC "check_word" (defScope s_check_word) s.heap.objs.size f cdv)).units + 1 < cLine := hu_of hr
  have hu2 : (A.deeper (envOfC "check_word" (defScope s_check_word) s.heap.objs.size f cdv)).units + 65 < cLine := by have := hr.un; omega
  exact body_end (Nm := n_check_word) (n := 2) rfl (dss_one (ds_if (dt_not (dt_val (he := fun _ => rfl) (de_callC (hdb := by decide) (he := rfl) (hpl := rfl) C_is_right_word (hr.mono (by decide)) rfl (da_cons (hs := rfl) (de_v 0) (da_cons (hs := rfl) (de_v 1) da_nil))))) (dss_one ds_never) dss_nil)) h
theorem cal_check_word {h : Heap} (X : K.In h) (G : h.Ns mainGlobals mg) (A : FunAt K "check_word" s_check_word) (B : Bt mg) (C_is_right_word : Callee P w K mg base "is_right_word" 4 m_is_right_word) : Callee P w K mg base "check_word" 5 m_check_word := by
  obtain ⟨f, fd, a, F⟩ := A
  exact ⟨f, fd, ["commands", "word"], ok_check_word F B C_is_right_word, PySem.W.mg_of X G a, F.kp, F.binds fun _ _ _ _ _ _ us hl => match us, hl with | [_, _], _ => rfl⟩
def ml_word_to_0 : List D → List D → Res D := runE 1 2 (e2 eqD (eV 0) (eV 1))
def ml_word_to_1 : List D → List D → Res D := runE 1 2 (eFn (fun ds => noX (m_beside ds)) (aCons (eV 1) (aCons (eV 0) aNil)))
abbrev s_word_to : Stmt := topS 49
abbrev n_word_to : List Str := ["commands", "stand", "goal", "told"]
theorem sc_word_to : FnScope n_word_to ["commands", "stand", "goal"] (defScope s_word_to) := ⟨rfl, rfl, rfl, by decide +kernel, rfl, by decide +kernel, by decide +kernel⟩
def m_word_to : List D → Res D := runF 3 4 (sSeq (sSet 3 (eFnL m_shortest_to [([0], ml_word_to_1), ([2], ml_word_to_0)] (eV 1))) (sRet (eIf (tst (e2 isD (eV 3) (eC .none))) (eC .none) (e2 ixD (eV 3) (eC (.int 1))))))
theorem ok_word_to {f : Addr} {fd : FuncData} {c_word_to P_word_to : Addr} (F : FunC K "word_to" s_word_to f fd c_word_to) (B : Bt mg) (C_beside : Callee P w K mg base "beside" 2 m_beside) (C_shortest_to : CalleeL P w K mg base "shortest_to" 3 1 2 m_shortest_to) (TA_word_to : TabAt base mg T "word_to" c_word_to P_word_to) : FnOk P w K mg base CX0 5 f fd ["commands", "stand", "goal"] (spT T m_word_to) := by
  refine F.ok sc_word_to (fun vs H Q E h => spT_len h) (fun A outer s H vs Q E hr h => ?_)
  have hu : (A.deeper (envOfC "word_to" (defScope s_word_to) s.heap.objs.size f (.ref c_word_to))).units + 64 < cLine := hr.units
  have hu1 : (A.deeper (envOfC "word_to" (defScope s_word_to) s.heap.objs.size f (.ref c_word_to))).units + 1 < cLine := hu_of hr
  have hu2 : (A.deeper (envOfC "word_to" (defScope s_word_to) s.heap.objs.size f (.ref c_word_to))).units + 65 < cLine := by have := hr.un; omega
  exact body_endT (Nm := n_word_to) (n := 3) rfl (dss_cons (ds_set (hs := rfl) (hf := .inl rfl) (i := 3) sc_word_to.nd rfl (by first | exact .inl rfl | exact .inr rfl) (de_callL (T := T) (ls := [([0], ml_word_to_1), ([2], ml_word_to_0)]) C_shortest_to (hr.mono (by decide)) rfl TA_word_to.tb rfl TA_word_to.mem TA_word_to.un (de_v 1) (LmDs.cons ⟨_, _, _, _, ["here"], ["commands"], rfl, rfl, fun f c' => lokL (N := ["here", "commands"]) (nscope_by (by dsimp only [mkLm]; decide +kernel)) rfl (fun _ _ us hl => match us, hl with | [_], _ => rfl) (fun A outer s H E low hr => by have hu := hr.units; have hu1 := hu_of hr; exact ⟨_, (de_callC (hdb := by decide) (he := rfl) (hpl := rfl) C_beside (hr.mono (by decide)) rfl (da_cons (hs := rfl) (de_v 1) (da_cons (hs := rfl) (de_v 0) da_nil)))⟩), rfl, ndef_free (fr := ["commands"]) (by kernel_rfl), ndef_fr (sc := defScope s_word_to) (by kernel_rfl), rfl⟩ rfl (LmDs.cons ⟨_, _, _, _, ["there"], ["goal"], rfl, rfl, fun f c' => lokL (N := ["there", "goal"]) (nscope_by (by dsimp only [mkLm]; decide +kernel)) rfl (fun _ _ us hl => match us, hl with | [_], _ => rfl) (fun A outer s H E low hr => by have hu := hr.units; have hu1 := hu_of hr; exact ⟨_, (de_cmp (k_eq (K := K) rfl hu) nx_eq (dq_of (de_v 0)) (dq_of (de_v 1)) (nomark _))⟩), rfl, ndef_free (fr := ["goal"]) (by kernel_rfl), ndef_fr (sc := defScope s_word_to) (by kernel_rfl), rfl⟩ rfl LmDs.nil)) (by decide) rfl rfl)) (dss_one (ds_ret (de_if (dt_cmp o_is nx_is (dq_of (de_v 3)) (dq_of de_non) (nomark _)) de_non (k_ix (hs := fun _ _ => rfl) (K := K) rfl (dq_of (de_v 3)) (dq_of de_int)))))) h
theorem cal_word_to {h : Heap} {c_word_to P_word_to : Addr} (X : K.In h) (G : h.Ns mainGlobals mg) (A : MakAt K "word_to" s_word_to c_word_to) (B : Bt mg) (C_beside : Callee P w K mg base "beside" 2 m_beside) (C_shortest_to : CalleeL P w K mg base "shortest_to" 3 1 2 m_shortest_to) (TA_word_to : TabAt base mg T "word_to" c_word_to P_word_to) : CalleeT P w K mg base T "word_to" 5 m_word_to := by
  obtain ⟨f, fd, a, F⟩ := A
  exact ⟨f, fd, ["commands", "stand", "goal"], ok_word_to F B C_beside C_shortest_to TA_word_to, PySem.W.mg_of X G a, F.kp, F.fn.binds fun _ _ _ _ _ _ us hl => match us, hl with | [_, _, _], _ => rfl⟩
abbrev s_check_line : Stmt := topS 62
abbrev n_check_line : List Str := ["line"]
theorem sc_check_line : FnScope n_check_line ["line"] (defScope s_check_line) := ⟨rfl, rfl, rfl, by decide +kernel, rfl, by decide +kernel, by decide +kernel⟩
def m_check_line : List D → Res D := runF 1 1 (sIf (tOrF (tNotF (tst (e1 (isiD' "tuple") (eV 0)))) (tOrF (tNotF (tst (eChain leD leD (eC (.int 2)) (eCall lenD (aCons (eV 0) aNil)) (eC (.int 9))))) (tNotF (tst (eFn (fun ds => noX (m_is_order ds)) (aCons (eV 0) (aCons (eCall lenD (aCons (eV 0) aNil)) aNil))))))) sStk sNil)
theorem ok_check_line {f : Addr} {fd : FuncData} (F : Fun K "check_line" "check_line" s_check_line f fd) (B : Bt mg) (C_is_order : Callee P w K mg base "is_order" 4 m_is_order) : FnOk P w K mg base CX0 5 f fd ["line"] (spD m_check_line) := by
  refine F.ok sc_check_line (fun vs H Q E h => spD_len h) (fun cdv A outer s H vs Q E hr h => ?_)
  have hu : (A.deeper (envOfC "check_line" (defScope s_check_line) s.heap.objs.size f cdv)).units + 64 < cLine := hr.units
  have hu1 : (A.deeper (envOfC "check_line" (defScope s_check_line) s.heap.objs.size f cdv)).units + 1 < cLine := hu_of hr
  have hu2 : (A.deeper (envOfC "check_line" (defScope s_check_line) s.heap.objs.size f cdv)).units + 65 < cLine := by have := hr.un; omega
  exact body_end (Nm := n_check_line) (n := 1) rfl (dss_one (ds_if (dt_of (dw_or (dt_not (dt_val (he := fun _ => rfl) (k_isi (hn2 := by decide) (hd2 := by decide) (s1 := rfl) (s2 := rfl) (hpl := rfl) (K := K) rfl rfl B.b_isinstance (by decide +kernel) rfl B.b_tuple (by decide +kernel) (dq_of (de_v 0))))) (dw_or (dt_not (dt_chain (hm := by with_unfolding_all rfl) o_le nx_c2 o_le nx_c2 (dq_of (de_globI rfl B.g_LEAST_CUPS)) (dq_of (de_callB (hn := by decide) (hdb := by decide) (he := rfl) (hpl := rfl) (k_len (K := K) rfl) nx_len rfl B.b_len (by decide +kernel) (db_cons (hs := rfl) (dq_of (de_v 0)) db_nil))) (dq_of (de_globI rfl B.g_MOST_CUPS)))) (dw_or1 (dt_not (dt_val (he := fun _ => rfl) (de_callC (hdb := by decide) (he := rfl) (hpl := rfl) C_is_order (hr.mono (by decide)) rfl (da_cons (hs := rfl) (de_v 0) (da_cons (hs := rfl) (de_callB (hn := by decide) (hdb := by decide) (he := rfl) (hpl := rfl) (k_len (K := K) rfl) nx_len rfl B.b_len (by decide +kernel) (db_cons (hs := rfl) (dq_of (de_v 0)) db_nil)) da_nil))))))))) (dss_one ds_never) dss_nil)) h
theorem cal_check_line {h : Heap} (X : K.In h) (G : h.Ns mainGlobals mg) (A : FunAt K "check_line" s_check_line) (B : Bt mg) (C_is_order : Callee P w K mg base "is_order" 4 m_is_order) : Callee P w K mg base "check_line" 5 m_check_line := by
  obtain ⟨f, fd, a, F⟩ := A
  exact ⟨f, fd, ["line"], ok_check_line F B C_is_order, PySem.W.mg_of X G a, F.kp, F.binds fun _ _ _ _ _ _ us hl => match us, hl with | [_], _ => rfl⟩
abbrev s_same_end : Stmt := topS 72
abbrev n_same_end : List Str := ["cups", "one", "other"]
theorem sc_same_end : FnScope n_same_end ["cups", "one", "other"] (defScope s_same_end) := ⟨rfl, rfl, rfl, by decide +kernel, rfl, by decide +kernel, by decide +kernel⟩
def m_same_end : List D → Res D := runF 3 3 (sSeq (sDrop (eFn (fun ds => noX (m_check_cups ds)) (aCons (eV 0) aNil))) (sSeq (sDrop (eFn (fun ds => noX (m_check_swaps ds)) (aCons (eV 0) (aCons (eV 1) aNil)))) (sSeq (sDrop (eFn (fun ds => noX (m_check_swaps ds)) (aCons (eV 0) (aCons (eV 2) aNil)))) (sRet (e2 eqD (eFn (fun ds => noX (m_raw_behind ds)) (aCons (eV 0) (aCons (eV 1) aNil))) (eFn (fun ds => noX (m_raw_behind ds)) (aCons (eV 0) (aCons (eV 2) aNil))))))))
theorem ok_same_end {f : Addr} {fd : FuncData} (F : Fun K "same_end" "same_end" s_same_end f fd) (B : Bt mg) (C_check_cups : Callee P w K mg base "check_cups" 3 m_check_cups) (C_check_swaps : Callee P w K mg base "check_swaps" 4 m_check_swaps) (C_raw_behind : Callee P w K mg base "raw_behind" 2 m_raw_behind) : FnOk P w K mg base CX0 5 f fd ["cups", "one", "other"] (spD m_same_end) := by
  refine F.ok sc_same_end (fun vs H Q E h => spD_len h) (fun cdv A outer s H vs Q E hr h => ?_)
  have hu : (A.deeper (envOfC "same_end" (defScope s_same_end) s.heap.objs.size f cdv)).units + 64 < cLine := hr.units
  have hu1 : (A.deeper (envOfC "same_end" (defScope s_same_end) s.heap.objs.size f cdv)).units + 1 < cLine := hu_of hr
  have hu2 : (A.deeper (envOfC "same_end" (defScope s_same_end) s.heap.objs.size f cdv)).units + 65 < cLine := by have := hr.un; omega
  exact body_end (Nm := n_same_end) (n := 3) rfl (dss_cons (ds_expr (hs := rfl) (de_callC (hdb := by decide) (he := rfl) (hpl := rfl) C_check_cups (hr.mono (by decide)) rfl (da_cons (hs := rfl) (de_v 0) da_nil))) (dss_cons (ds_expr (hs := rfl) (de_callC (hdb := by decide) (he := rfl) (hpl := rfl) C_check_swaps (hr.mono (by decide)) rfl (da_cons (hs := rfl) (de_v 0) (da_cons (hs := rfl) (de_v 1) da_nil)))) (dss_cons (ds_expr (hs := rfl) (de_callC (hdb := by decide) (he := rfl) (hpl := rfl) C_check_swaps (hr.mono (by decide)) rfl (da_cons (hs := rfl) (de_v 0) (da_cons (hs := rfl) (de_v 2) da_nil)))) (dss_one (ds_ret (de_cmp (k_eq (K := K) rfl hu) nx_eq (dq_of (de_callC (hdb := by decide) (he := rfl) (hpl := rfl) C_raw_behind (hr.mono (by decide)) rfl (da_cons (hs := rfl) (de_v 0) (da_cons (hs := rfl) (de_v 1) da_nil)))) (dq_of (de_callC (hdb := by decide) (he := rfl) (hpl := rfl) C_raw_behind (hr.mono (by decide)) rfl (da_cons (hs := rfl) (de_v 0) (da_cons (hs := rfl) (de_v 2) da_nil)))) (nomark _))))))) h
theorem cal_same_end {h : Heap} (X : K.In h) (G : h.Ns mainGlobals mg) (A : FunAt K "same_end" s_same_end) (B : Bt mg) (C_check_cups : Callee P w K mg base "check_cups" 3 m_check_cups) (C_check_swaps : Callee P w K mg base "check_swaps" 4 m_check_swaps) (C_raw_behind : Callee P w K mg base "raw_behind" 2 m_raw_behind) : Callee P w K mg base "same_end" 5 m_same_end := by
  obtain ⟨f, fd, a, F⟩ := A
  exact ⟨f, fd, ["cups", "one", "other"], ok_same_end F B C_check_cups C_check_swaps C_raw_behind, PySem.W.mg_of X G a, F.kp, F.binds fun _ _ _ _ _ _ us hl => match us, hl with | [_, _, _], _ => rfl⟩
abbrev s_check_both : Stmt := topS 78
abbrev n_check_both : List Str := ["one", "other"]
theorem sc_check_both : FnScope n_check_both ["one", "other"] (defScope s_check_both) := ⟨rfl, rfl, rfl, by decide +kernel, rfl, by decide +kernel, by decide +kernel⟩
def m_check_both : List D → Res D := runF 2 2 (sSeq (sDrop (eFn (fun ds => noX (m_check_horses ds)) (aCons (eV 0) aNil))) (sDrop (eFn (fun ds => noX (m_check_horses ds)) (aCons (eV 1) aNil))))
theorem ok_check_both {f : Addr} {fd : FuncData} (F : Fun K "check_both" "check_both" s_check_both f fd) (B : Bt mg) (C_check_horses : Callee P w K mg base "check_horses" 4 m_check_horses) : FnOk P w K mg base CX0 5 f fd ["one", "other"] (spD m_check_both) := by
  refine F.ok sc_check_both (fun vs H Q E h => spD_len h) (fun cdv A outer s H vs Q E hr h => ?_)
  have hu : (A.deeper (envOfC "check_both" (defScope s_check_both) s.heap.objs.size f cdv)).units + 64 < cLine := hr.units
  have hu1 : (A.deeper (envOfC "check_both" (defScope s_check_both) s.heap.objs.size f cdv)).units + 1 < cLine := hu_of hr
  have hu2 : (A.deeper (envOfC "check_both" (defScope s_check_both) s.heap.objs.size f cdv)).units + 65 < cLine := by have := hr.un; omega
  exact body_end (Nm := n_check_both) (n := 2) rfl (dss_cons (ds_expr (hs := rfl) (de_callC (hdb := by decide) (he := rfl) (hpl := rfl) C_check_horses (hr.mono (by decide)) rfl (da_cons (hs := rfl) (de_v 0) da_nil))) (dss_one (ds_expr (hs := rfl) (de_callC (hdb := by decide) (he := rfl) (hpl := rfl) C_check_horses (hr.mono (by decide)) rfl (da_cons (hs := rfl) (de_v 1) da_nil))))) h
theorem cal_check_both {h : Heap} (X : K.In h) (G : h.Ns mainGlobals mg) (A : FunAt K "check_both" s_check_both) (B : Bt mg) (C_check_horses : Callee P w K mg base "check_horses" 4 m_check_horses) : Callee P w K mg base "check_both" 5 m_check_both := by
  obtain ⟨f, fd, a, F⟩ := A
  exact ⟨f, fd, ["one", "other"], ok_check_both F B C_check_horses, PySem.W.mg_of X G a, F.kp, F.binds fun _ _ _ _ _ _ us hl => match us, hl with | [_, _], _ => rfl⟩
abbrev s_least_turn : Stmt := topS 81
abbrev n_least_turn : List Str := ["horses"]
theorem sc_least_turn : FnScope n_least_turn ["horses"] (defScope s_least_turn) := ⟨rfl, rfl, rfl, by decide +kernel, rfl, by decide +kernel, by decide +kernel⟩
def m_least_turn : List D → Res D := runF 1 1 (sSeq (sDrop (eFn (fun ds => noX (m_check_horses ds)) (aCons (eV 0) aNil))) (sRet (eCall minG (aCons (eFn (fun ds => noX (m_all_turns ds)) (aCons (eV 0) aNil)) aNil))))
theorem ok_least_turn {f : Addr} {fd : FuncData} (F : Fun K "least_turn" "least_turn" s_least_turn f fd) (B : Bt mg) (C_all_turns : Callee P w K mg base "all_turns" 2 m_all_turns) (C_check_horses : Callee P w K mg base "check_horses" 4 m_check_horses) : FnOk P w K mg base CX0 5 f fd ["horses"] (spD m_least_turn) := by
  refine F.ok sc_least_turn (fun vs H Q E h => spD_len h) (fun cdv A outer s H vs Q E hr h => ?_)
  have hu : (A.deeper (envOfC "least_turn" (defScope s_least_turn) s.heap.objs.size f cdv)).units + 64 < cLine := hr.units
  have hu1 : (A.deeper (envOfC "least_turn" (defScope s_least_turn) s.heap.objs.size f cdv)).units + 1 < cLine := hu_of hr
  have hu2 : (A.deeper (envOfC "least_turn" (defScope s_least_turn) s.heap.objs.size f cdv)).units + 65 < cLine := by have := hr.un; omega
  exact body_end (Nm := n_least_turn) (n := 1) rfl (dss_cons (ds_expr (hs := rfl) (de_callC (hdb := by decide) (he := rfl) (hpl := rfl) C_check_horses (hr.mono (by decide)) rfl (da_cons (hs := rfl) (de_v 0) da_nil))) (dss_one (ds_ret (de_callB (hn := by decide) (hdb := by decide) (he := rfl) (hpl := rfl) (k_minG (K := K) rfl rfl hu) nx_minG rfl B.b_min (by decide +kernel) (db_cons (hs := rfl) (dq_of (de_callC (hdb := by decide) (he := rfl) (hpl := rfl) C_all_turns (hr.mono (by decide)) rfl (da_cons (hs := rfl) (de_v 0) da_nil))) db_nil))))) h
theorem cal_least_turn {h : Heap} (X : K.In h) (G : h.Ns mainGlobals mg) (A : FunAt K "least_turn" s_least_turn) (B : Bt mg) (C_all_turns : Callee P w K mg base "all_turns" 2 m_all_turns) (C_check_horses : Callee P w K mg base "check_horses" 4 m_check_horses) : Callee P w K mg base "least_turn" 5 m_least_turn := by
  obtain ⟨f, fd, a, F⟩ := A
  exact ⟨f, fd, ["horses"], ok_least_turn F B C_all_turns C_check_horses, PySem.W.mg_of X G a, F.kp, F.binds fun _ _ _ _ _ _ us hl => match us, hl with | [_], _ => rfl⟩
abbrev s_period : Stmt := topS 84
abbrev n_period : List Str := ["horses", "some", "places"]
theorem sc_period : FnScope n_period ["horses"] (defScope s_period) := ⟨rfl, rfl, rfl, by decide +kernel, rfl, by decide +kernel, by decide +kernel⟩
def m_period : List D → Res D := runF 1 3 (sSeq (sDrop (eFn (fun ds => noX (m_check_horses ds)) (aCons (eV 0) aNil))) (sSeq (sSet 1 (eLc (iRg2 (aCons (eC (.int 1)) (aCons (eCall lenD (aCons (eV 0) aNil)) aNil))) [2] (tgN 2) (tst (e2 eqD (eFn (fun ds => noX (m_turned_by ds)) (aCons (eV 0) (aCons (eV 2) aNil))) (eV 0))) (eV 2))) (sRet (eIf (tst (e2 gtD (eCall lenD (aCons (eV 1) aNil)) (eC (.int 0)))) (e2 ixD (eV 1) (eC (.int 0))) (eCall lenD (aCons (eV 0) aNil))))))
theorem ok_period {f : Addr} {fd : FuncData} (F : Fun K "period" "period" s_period f fd) (B : Bt mg) (C_check_horses : Callee P w K mg base "check_horses" 4 m_check_horses) (C_turned_by : Callee P w K mg base "turned_by" 1 m_turned_by) : FnOk P w K mg base CX0 5 f fd ["horses"] (spD m_period) := by
  refine F.ok sc_period (fun vs H Q E h => spD_len h) (fun cdv A outer s H vs Q E hr h => ?_)
  have hu : (A.deeper (envOfC "period" (defScope s_period) s.heap.objs.size f cdv)).units + 64 < cLine := hr.units
  have hu1 : (A.deeper (envOfC "period" (defScope s_period) s.heap.objs.size f cdv)).units + 1 < cLine := hu_of hr
  have hu2 : (A.deeper (envOfC "period" (defScope s_period) s.heap.objs.size f cdv)).units + 65 < cLine := by have := hr.un; omega
  exact body_end (Nm := n_period) (n := 1) rfl (dss_cons (ds_expr (hs := rfl) (de_callC (hdb := by decide) (he := rfl) (hpl := rfl) C_check_horses (hr.mono (by decide)) rfl (da_cons (hs := rfl) (de_v 0) da_nil))) (dss_cons (ds_lc (ps_lc (hs := fun _ => rfl) (i := 1) rfl sc_period.nd rfl rfl (sw_true rfl rfl rfl (by decide +kernel)) (own := [("places", 2)]) (g := (gName 2)) (dj_of (di_range2 (hs := rfl) (hs2 := rfl) rfl B.b_range (db_cons (hs := rfl) (dq_of de_int) (db_cons (hs := rfl) (dq_of (de_callB (hn := by decide) (hdb := by decide) (he := rfl) (hpl := rfl) (k_len (K := K) rfl) nx_len rfl B.b_len (by decide +kernel) (db_cons (hs := rfl) (dq_of (de_v 0)) db_nil))) db_nil)))) (blkOk_by (own := [("places", 2)]) (N := n_period) (sc := defScope s_period) (by decide +kernel)) (fun _ _ _ _ _ => (dgn_name (i := 2) sc_period.nd rfl (by first | exact .inl rfl | exact .inr rfl))) (ng_n 2) (by decide) (fun _ _ _ _ _ => dts_one (dt_cmp (k_eq (K := K) rfl hu) nx_eq (dq_of (de_callC (hdb := by decide) (he := rfl) (hpl := rfl) C_turned_by (hr.mono (by decide)) rfl (da_cons (hs := rfl) (de_v 0) (da_cons (hs := rfl) (de_v 2) da_nil)))) (dq_of (de_v 0)) (nomark _))) (fun _ _ _ _ _ => (de_v 2)))) (dss_one (ds_ret (de_if (dt_cmp o_gt nx_c2 (dq_of (de_callB (hn := by decide) (hdb := by decide) (he := rfl) (hpl := rfl) (k_len (K := K) rfl) nx_len rfl B.b_len (by decide +kernel) (db_cons (hs := rfl) (dq_of (de_v 1)) db_nil))) (dq_of de_int) (nomark _)) (k_ix (hs := fun _ _ => rfl) (K := K) rfl (dq_of (de_v 1)) (dq_of de_int)) (de_callB (hn := by decide) (hdb := by decide) (he := rfl) (hpl := rfl) (k_len (K := K) rfl) nx_len rfl B.b_len (by decide +kernel) (db_cons (hs := rfl) (dq_of (de_v 0)) db_nil))))))) h
theorem cal_period {h : Heap} (X : K.In h) (G : h.Ns mainGlobals mg) (A : FunAt K "period" s_period) (B : Bt mg) (C_check_horses : Callee P w K mg base "check_horses" 4 m_check_horses) (C_turned_by : Callee P w K mg base "turned_by" 1 m_turned_by) : Callee P w K mg base "period" 5 m_period := by
  obtain ⟨f, fd, a, F⟩ := A
  exact ⟨f, fd, ["horses"], ok_period F B C_check_horses C_turned_by, PySem.W.mg_of X G a, F.kp, F.binds fun _ _ _ _ _ _ us hl => match us, hl with | [_], _ => rfl⟩
abbrev s_apart : Stmt := topS 86
abbrev n_apart : List Str := ["horses", "colour", "places", "place", "one"]
theorem sc_apart : FnScope n_apart ["horses", "colour"] (defScope s_apart) := ⟨rfl, rfl, rfl, by decide +kernel, rfl, by decide +kernel, by decide +kernel⟩
def m_apart : List D → Res D := runF 2 5 (sSeq (sDrop (eFn (fun ds => noX (m_check_horses ds)) (aCons (eV 0) aNil))) (sSeq (sSet 2 (eLc (iEnumA (eV 0)) [3, 4] (tgT (tgCons (tgN 3) (tgCons (tgN 4) tgNil))) (tst (e2 eqD (eV 4) (eV 1))) (eV 3))) (sRet (eIf (tst (e2 gtD (eCall lenD (aCons (eV 2) aNil)) (eC (.int 0)))) (eCall maxG (aCons (eFn (fun ds => noX (m_ways_round ds)) (aCons (eV 2) (aCons (eCall lenD (aCons (eV 0) aNil)) aNil))) aNil)) (eC .none)))))
theorem ok_apart {f : Addr} {fd : FuncData} (F : Fun K "apart" "apart" s_apart f fd) (B : Bt mg) (C_check_horses : Callee P w K mg base "check_horses" 4 m_check_horses) (C_ways_round : Callee P w K mg base "ways_round" 1 m_ways_round) : FnOk P w K mg base CX0 5 f fd ["horses", "colour"] (spD m_apart) := by
  refine F.ok sc_apart (fun vs H Q E h => spD_len h) (fun cdv A outer s H vs Q E hr h => ?_)
  have hu : (A.deeper (envOfC "apart" (defScope s_apart) s.heap.objs.size f cdv)).units + 64 < cLine := hr.units
  have hu1 : (A.deeper (envOfC "apart" (defScope s_apart) s.heap.objs.size f cdv)).units + 1 < cLine := hu_of hr
  have hu2 : (A.deeper (envOfC "apart" (defScope s_apart) s.heap.objs.size f cdv)).units + 65 < cLine := by have := hr.un; omega
  exact body_end (Nm := n_apart) (n := 2) rfl (dss_cons (ds_expr (hs := rfl) (de_callC (hdb := by decide) (he := rfl) (hpl := rfl) C_check_horses (hr.mono (by decide)) rfl (da_cons (hs := rfl) (de_v 0) da_nil))) (dss_cons (ds_lc (ps_lc (hs := fun _ => rfl) (i := 2) rfl sc_apart.nd rfl rfl (sw_true rfl rfl rfl (by decide +kernel)) (own := [("place", 3), ("one", 4)]) (g := (gTup K 2 (gCons (gName 3) (gCons (gName 4) gNil)))) (dj_of (k_enumA (hs := rfl) (hs2 := rfl) (K := K) rfl rfl B.b_enumerate (de_v 0))) (blkOk_by (own := [("place", 3), ("one", 4)]) (N := n_apart) (sc := defScope s_apart) (by decide +kernel)) (fun _ _ _ _ _ => (gntK (K := K) rfl rfl (by rfl) (by rfl) (tl_cons (tl_cons tl_nil)) (gns (by rfl) (dgn_name (i := 3) sc_apart.nd rfl (by first | exact .inl rfl | exact .inr rfl)) (gns (by rfl) (dgn_name (i := 4) sc_apart.nd rfl (by first | exact .inl rfl | exact .inr rfl)) dgns_nil)))) (ng_t (ng_cons (ng_n 3) (ng_cons (ng_n 4) ng_nil))) (by decide) (fun _ _ _ _ _ => dts_one (dt_cmp (k_eq (K := K) rfl hu) nx_eq (dq_of (de_v 4)) (dq_of (de_v 1)) (nomark _))) (fun _ _ _ _ _ => (de_v 3)))) (dss_one (ds_ret (de_if (dt_cmp o_gt nx_c2 (dq_of (de_callB (hn := by decide) (hdb := by decide) (he := rfl) (hpl := rfl) (k_len (K := K) rfl) nx_len rfl B.b_len (by decide +kernel) (db_cons (hs := rfl) (dq_of (de_v 2)) db_nil))) (dq_of de_int) (nomark _)) (de_callB (hn := by decide) (hdb := by decide) (he := rfl) (hpl := rfl) (k_maxG (K := K) rfl rfl hu) nx_maxG rfl B.b_max (by decide +kernel) (db_cons (hs := rfl) (dq_of (de_callC (hdb := by decide) (he := rfl) (hpl := rfl) C_ways_round (hr.mono (by decide)) rfl (da_cons (hs := rfl) (de_v 2) (da_cons (hs := rfl) (de_callB (hn := by decide) (hdb := by decide) (he := rfl) (hpl := rfl) (k_len (K := K) rfl) nx_len rfl B.b_len (by decide +kernel) (db_cons (hs := rfl) (dq_of (de_v 0)) db_nil)) da_nil)))) db_nil)) de_non))))) h
theorem cal_apart {h : Heap} (X : K.In h) (G : h.Ns mainGlobals mg) (A : FunAt K "apart" s_apart) (B : Bt mg) (C_check_horses : Callee P w K mg base "check_horses" 4 m_check_horses) (C_ways_round : Callee P w K mg base "ways_round" 1 m_ways_round) : Callee P w K mg base "apart" 5 m_apart := by
  obtain ⟨f, fd, a, F⟩ := A
  exact ⟨f, fd, ["horses", "colour"], ok_apart F B C_check_horses C_ways_round, PySem.W.mg_of X G a, F.kp, F.binds fun _ _ _ _ _ _ us hl => match us, hl with | [_, _], _ => rfl⟩
abbrev s_balls : Stmt := topS 29
abbrev n_balls : List Str := ["throws"]
theorem sc_balls : FnScope n_balls ["throws"] (defScope s_balls) := ⟨rfl, rfl, rfl, by decide +kernel, rfl, by decide +kernel, by decide +kernel⟩
def m_balls : List D → Res D := runF 1 1 (sSeq (sDrop (eFn (fun ds => noX (m_check_pattern ds)) (aCons (eV 0) aNil))) (sRet (e2 fdivD (eCall sumD (aCons (eV 0) aNil)) (eCall lenD (aCons (eV 0) aNil)))))
theorem ok_balls {f : Addr} {fd : FuncData} (F : Fun K "balls" "balls" s_balls f fd) (B : Bt mg) (C_check_pattern : Callee P w K mg base "check_pattern" 5 m_check_pattern) : FnOk P w K mg base CX0 6 f fd ["throws"] (spD m_balls) := by
  refine F.ok sc_balls (fun vs H Q E h => spD_len h) (fun cdv A outer s H vs Q E hr h => ?_)
  have hu : (A.deeper (envOfC "balls" (defScope s_balls) s.heap.objs.size f cdv)).units + 64 < cLine := hr.units
  have hu1 : (A.deeper (envOfC "balls" (defScope s_balls) s.heap.objs.size f cdv)).units + 1 < cLine := hu_of hr
  have hu2 : (A.deeper (envOfC "balls" (defScope s_balls) s.heap.objs.size f cdv)).units + 65 < cLine := by have := hr.un; omega
  exact body_end (Nm := n_balls) (n := 1) rfl (dss_cons (ds_expr (hs := rfl) (de_callC (hdb := by decide) (he := rfl) (hpl := rfl) C_check_pattern (hr.mono (by decide)) rfl (da_cons (hs := rfl) (de_v 0) da_nil))) (dss_one (ds_ret (de_op o_fdiv nx_fdiv (dq_of (de_callB (hn := by decide) (hdb := by decide) (he := rfl) (hpl := rfl) (k_sum (K := K) rfl rfl) nx_sum rfl B.b_sum (by decide +kernel) (db_cons (hs := rfl) (dq_of (de_v 0)) db_nil))) (dq_of (de_callB (hn := by decide) (hdb := by decide) (he := rfl) (hpl := rfl) (k_len (K := K) rfl) nx_len rfl B.b_len (by decide +kernel) (db_cons (hs := rfl) (dq_of (de_v 0)) db_nil))))))) h
theorem cal_balls {h : Heap} (X : K.In h) (G : h.Ns mainGlobals mg) (A : FunAt K "balls" s_balls) (B : Bt mg) (C_check_pattern : Callee P w K mg base "check_pattern" 5 m_check_pattern) : Callee P w K mg base "balls" 6 m_balls := by
  obtain ⟨f, fd, a, F⟩ := A
  exact ⟨f, fd, ["throws"], ok_balls F B C_check_pattern, PySem.W.mg_of X G a, F.kp, F.binds fun _ _ _ _ _ _ us hl => match us, hl with | [_], _ => rfl⟩
abbrev s_cycles : Stmt := topS 31
abbrev n_cycles : List Str := ["throws", "lands", "found", "place", "lot", "here", "one"]
theorem sc_cycles : FnScope n_cycles ["throws"] (defScope s_cycles) := ⟨rfl, rfl, rfl, by decide +kernel, rfl, by decide +kernel, by decide +kernel⟩
def m_cycles : List D → Res D := runF 1 7 (sSeq (sDrop (eFn (fun ds => noX (m_check_pattern ds)) (aCons (eV 0) aNil))) (sSeq (sPar 1 2 (mFr (eFn (fun ds => noX (m_landings ds)) (aCons (eV 0) aNil)) (mOw (eLst aNil) mNil))) (sSeq (sFor (iRg1 (aCons (eCall lenD (aCons (eV 0) aNil)) aNil)) (tgN 3) (sSeq (sPar 4 5 (mOw (eLst (aCons (eV 3) aNil)) (mFr (e2 ixD (eV 1) (eV 3)) mNil))) (sSeq (sWhile 1000 (tst (e2 neD (eV 5) (eV 3))) (sSeq (sApp 4 (eV 5)) (sSet 5 (e2 ixD (eV 1) (eV 5))))) (sIf (tAndF (tst (e2 eqD (eCall minG (aCons (eVq 4) aNil)) (eV 3))) (tst (e2 gtD (eCall sumD (aCons (eLc (iSeq (eVq 4)) [6] (tgN 6) tYesF (e2 ixD (eV 0) (eV 6))) aNil)) (eC (.int 0))))) (sApp 2 (eCall tupleD (aCons (eCall sortedG (aCons (eVq 4) aNil)) aNil))) sNil)))) (sRet (eCall tupleD (aCons (eCall sortedG (aCons (eVq 2) aNil)) aNil))))))
theorem ok_cycles {f : Addr} {fd : FuncData} (F : Fun K "cycles" "cycles" s_cycles f fd) (B : Bt mg) (C_check_pattern : Callee P w K mg base "check_pattern" 5 m_check_pattern) (C_landings : Callee P w K mg base "landings" 2 m_landings) : FnOk P w K mg base CX0 6 f fd ["throws"] (spD m_cycles) := by
  refine F.ok sc_cycles (fun vs H Q E h => spD_len h) (fun cdv A outer s H vs Q E hr h => ?_)
  have hu : (A.deeper (envOfC "cycles" (defScope s_cycles) s.heap.objs.size f cdv)).units + 64 < cLine := hr.units
  have hu1 : (A.deeper (envOfC "cycles" (defScope s_cycles) s.heap.objs.size f cdv)).units + 1 < cLine := hu_of hr
  have hu2 : (A.deeper (envOfC "cycles" (defScope s_cycles) s.heap.objs.size f cdv)).units + 65 < cLine := by have := hr.un; omega
  exact body_end (Nm := n_cycles) (n := 1) rfl (dss_cons (ds_expr (hs := rfl) (de_callC (hdb := by decide) (he := rfl) (hpl := rfl) C_check_pattern (hr.mono (by decide)) rfl (da_cons (hs := rfl) (de_v 0) da_nil))) (dss_cons (ds_par (hs := rfl) (i := 1) (j := 2) rfl sc_cycles.nd rfl rfl (by decide) rfl rfl (dm_fr (hs := rfl) (de_callC (hdb := by decide) (he := rfl) (hpl := rfl) C_landings (hr.mono (by decide)) rfl (da_cons (hs := rfl) (de_v 0) da_nil)) (dm_ow (hs := rfl) (dn_lst da_nil) dm_nil)) (by rfl)) (dss_cons (ds_for (hs := fun _ => rfl) PassesOwn.never rfl (di_range1 (hs := rfl) rfl B.b_range (db_cons (hs := rfl) (dq_of (de_callB (hn := by decide) (hdb := by decide) (he := rfl) (hpl := rfl) (k_len (K := K) rfl) nx_len rfl B.b_len (by decide +kernel) (db_cons (hs := rfl) (dq_of (de_v 0)) db_nil))) db_nil)) (dg_name (i := 3) sc_cycles.nd rfl (by first | exact .inl rfl | exact .inr rfl)) (dss_cons (ds_par (hs := rfl) (i := 4) (j := 5) rfl sc_cycles.nd rfl rfl (by decide) rfl rfl (dm_ow (hs := rfl) (dn_lst (da_cons (hs := rfl) (de_v 3) da_nil)) (dm_fr (hs := rfl) (k_ix (hs := fun _ _ => rfl) (K := K) rfl (dq_of (de_v 1)) (dq_of (de_v 3))) dm_nil)) (by rfl)) (dss_cons (ds_while 1000 PassesOwn.never (dt_cmp (k_ne (K := K) rfl hu) nx_ne (dq_of (de_v 5)) (dq_of (de_v 3)) (nomark _)) (dss_cons (ds_app (hN := rfl) (hv := by first | exact Or.inl rfl | exact Or.inr (Or.inl rfl)) (hb := rfl) (hf := rfl) (hl := rfl) (hs := rfl) (hp := rfl) (hsw := rfl) (hd := by decide) (hcd := by decide) 4 (he := (de_v 5))) (dss_one (ds_set (hs := rfl) (hf := .inl rfl) (i := 5) sc_cycles.nd rfl (by first | exact .inl rfl | exact .inr rfl) (k_ix (hs := fun _ _ => rfl) (K := K) rfl (dq_of (de_v 1)) (dq_of (de_v 5))))))) (dss_one (ds_if (dt_of (dw_and (dt_cmp (k_eq (K := K) rfl hu) nx_eq (dq_of (de_callB (hn := by decide) (hdb := by decide) (he := rfl) (hpl := rfl) (k_minG (K := K) rfl rfl hu) nx_minG rfl B.b_min (by decide +kernel) (db_cons (hs := rfl) (dq_v 4) db_nil))) (dq_of (de_v 3)) (nomark _)) (dw_and1 (dt_cmp o_gt nx_c2 (dq_of (de_callB (hn := by decide) (hdb := by decide) (he := rfl) (hpl := rfl) (k_sum (K := K) rfl rfl) nx_sum rfl B.b_sum (by decide +kernel) (db_cons (hs := rfl) (dq_of (de_of (dn_lc (hs := fun _ => rfl) rfl sc_cycles.nd (own := [("one", 6)]) (g := (gName 6)) (k_seqJ (K := K) rfl (dq_v 4)) (blkOk_by (own := [("one", 6)]) (N := n_cycles) (sc := defScope s_cycles) (by decide +kernel)) (fun _ _ _ _ _ => (dgn_name (i := 6) sc_cycles.nd rfl (by first | exact .inl rfl | exact .inr rfl))) (ng_n 6) (by decide) (fun _ _ _ _ _ => dts_nil) (fun _ _ _ _ _ => (k_ix (hs := fun _ _ => rfl) (K := K) rfl (dq_of (de_v 0)) (dq_of (de_v 6))))))) db_nil))) (dq_of de_int) (nomark _))))) (dss_one (ds_app (hN := rfl) (hv := by first | exact Or.inl rfl | exact Or.inr (Or.inl rfl)) (hb := rfl) (hf := rfl) (hl := rfl) (hs := rfl) (hp := rfl) (hsw := rfl) (hd := by decide) (hcd := by decide) 2 (he := (de_callTy (hn := by decide) (hdb := by decide) (he := rfl) (hpl := rfl) (k_tuple (K := K) rfl) nx_tuple rfl B.b_tuple (by decide +kernel) (db_cons (hs := rfl) (dq_of (de_of (dn_callB (hn := by decide) (hdb := by decide) (he := rfl) (hpl := rfl) (k_sortedG (K := K) rfl rfl hu) nx_sortedG rfl B.b_sorted (by decide +kernel) (db_cons (hs := rfl) (dq_v 4) db_nil)))) db_nil))))) dss_nil))))) (dss_one (ds_ret (de_callTy (hn := by decide) (hdb := by decide) (he := rfl) (hpl := rfl) (k_tuple (K := K) rfl) nx_tuple rfl B.b_tuple (by decide +kernel) (db_cons (hs := rfl) (dq_of (de_of (dn_callB (hn := by decide) (hdb := by decide) (he := rfl) (hpl := rfl) (k_sortedG (K := K) rfl rfl hu) nx_sortedG rfl B.b_sorted (by decide +kernel) (db_cons (hs := rfl) (dq_v 2) db_nil)))) db_nil))))))) h
theorem cal_cycles {h : Heap} (X : K.In h) (G : h.Ns mainGlobals mg) (A : FunAt K "cycles" s_cycles) (B : Bt mg) (C_check_pattern : Callee P w K mg base "check_pattern" 5 m_check_pattern) (C_landings : Callee P w K mg base "landings" 2 m_landings) : Callee P w K mg base "cycles" 6 m_cycles := by
  obtain ⟨f, fd, a, F⟩ := A
  exact ⟨f, fd, ["throws"], ok_cycles F B C_check_pattern C_landings, PySem.W.mg_of X G a, F.kp, F.binds fun _ _ _ _ _ _ us hl => match us, hl with | [_], _ => rfl⟩
abbrev s_done : Stmt := topS 47
abbrev n_done : List Str := ["commands", "stand", "word"]
theorem sc_done : FnScope n_done ["commands", "stand", "word"] (defScope s_done) := ⟨rfl, rfl, rfl, by decide +kernel, rfl, by decide +kernel, by decide +kernel⟩
def m_done : List D → Res D := runF 3 3 (sSeq (sDrop (eFn (fun ds => noX (m_check_commands ds)) (aCons (eV 0) aNil))) (sSeq (sDrop (eFn (fun ds => noX (m_check_stand ds)) (aCons (eV 0) (aCons (eV 1) aNil)))) (sSeq (sDrop (eFn (fun ds => noX (m_check_word ds)) (aCons (eV 0) (aCons (eV 2) aNil)))) (sRet (eFn (fun ds => noX (m_raw_done ds)) (aCons (eV 0) (aCons (eV 1) (aCons (eV 2) aNil))))))))
theorem ok_done {f : Addr} {fd : FuncData} (F : Fun K "done" "done" s_done f fd) (B : Bt mg) (C_check_commands : Callee P w K mg base "check_commands" 5 m_check_commands) (C_check_stand : Callee P w K mg base "check_stand" 5 m_check_stand) (C_check_word : Callee P w K mg base "check_word" 5 m_check_word) (C_raw_done : Callee P w K mg base "raw_done" 2 m_raw_done) : FnOk P w K mg base CX0 6 f fd ["commands", "stand", "word"] (spD m_done) := by
  refine F.ok sc_done (fun vs H Q E h => spD_len h) (fun cdv A outer s H vs Q E hr h => ?_)
  have hu : (A.deeper (envOfC "done" (defScope s_done) s.heap.objs.size f cdv)).units + 64 < cLine := hr.units
  have hu1 : (A.deeper (envOfC "done" (defScope s_done) s.heap.objs.size f cdv)).units + 1 < cLine := hu_of hr
  have hu2 : (A.deeper (envOfC "done" (defScope s_done) s.heap.objs.size f cdv)).units + 65 < cLine := by have := hr.un; omega
  exact body_end (Nm := n_done) (n := 3) rfl (dss_cons (ds_expr (hs := rfl) (de_callC (hdb := by decide) (he := rfl) (hpl := rfl) C_check_commands (hr.mono (by decide)) rfl (da_cons (hs := rfl) (de_v 0) da_nil))) (dss_cons (ds_expr (hs := rfl) (de_callC (hdb := by decide) (he := rfl) (hpl := rfl) C_check_stand (hr.mono (by decide)) rfl (da_cons (hs := rfl) (de_v 0) (da_cons (hs := rfl) (de_v 1) da_nil)))) (dss_cons (ds_expr (hs := rfl) (de_callC (hdb := by decide) (he := rfl) (hpl := rfl) C_check_word (hr.mono (by decide)) rfl (da_cons (hs := rfl) (de_v 0) (da_cons (hs := rfl) (de_v 2) da_nil)))) (dss_one (ds_ret (de_callC (hdb := by decide) (he := rfl) (hpl := rfl) C_raw_done (hr.mono (by decide)) rfl (da_cons (hs := rfl) (de_v 0) (da_cons (hs := rfl) (de_v 1) (da_cons (hs := rfl) (de_v 2) da_nil))))))))) h
theorem cal_done {h : Heap} (X : K.In h) (G : h.Ns mainGlobals mg) (A : FunAt K "done" s_done) (B : Bt mg) (C_check_commands : Callee P w K mg base "check_commands" 5 m_check_commands) (C_check_stand : Callee P w K mg base "check_stand" 5 m_check_stand) (C_check_word : Callee P w K mg base "check_word" 5 m_check_word) (C_raw_done : Callee P w K mg base "raw_done" 2 m_raw_done) : Callee P w K mg base "done" 6 m_done := by
  obtain ⟨f, fd, a, F⟩ := A
  exact ⟨f, fd, ["commands", "stand", "word"], ok_done F B C_check_commands C_check_stand C_check_word C_raw_done, PySem.W.mg_of X G a, F.kp, F.binds fun _ _ _ _ _ _ us hl => match us, hl with | [_, _, _], _ => rfl⟩
abbrev s_stands_many : Stmt := topS 52
abbrev n_stands_many : List Str := ["commands"]
theorem sc_stands_many : FnScope n_stands_many ["commands"] (defScope s_stands_many) := ⟨rfl, rfl, rfl, by decide +kernel, rfl, by decide +kernel, by decide +kernel⟩
def m_stands_many : List D → Res D := runF 1 1 (sSeq (sDrop (eFn (fun ds => noX (m_check_commands ds)) (aCons (eV 0) aNil))) (sRet (eCall lenD (aCons (eFn (fun ds => noX (m_stands_from ds)) (aCons (eV 0) (aCons (eFn (fun ds => noX (m_first_stand ds)) (aCons (eV 0) aNil)) aNil))) aNil))))
theorem ok_stands_many {f : Addr} {fd : FuncData} (F : Fun K "stands_many" "stands_many" s_stands_many f fd) (B : Bt mg) (C_check_commands : Callee P w K mg base "check_commands" 5 m_check_commands) (C_first_stand : Callee P w K mg base "first_stand" 1 m_first_stand) (C_stands_from : CalleeT P w K mg base T "stands_from" 4 m_stands_from) : FnOk P w K mg base CX0 6 f fd ["commands"] (spT T m_stands_many) := by
  refine F.ok sc_stands_many (fun vs H Q E h => spT_len h) (fun cdv A outer s H vs Q E hr h => ?_)
  have hu : (A.deeper (envOfC "stands_many" (defScope s_stands_many) s.heap.objs.size f cdv)).units + 64 < cLine := hr.units
  have hu1 : (A.deeper (envOfC "stands_many" (defScope s_stands_many) s.heap.objs.size f cdv)).units + 1 < cLine := hu_of hr
  have hu2 : (A.deeper (envOfC "stands_many" (defScope s_stands_many) s.heap.objs.size f cdv)).units + 65 < cLine := by have := hr.un; omega
  exact body_endT (Nm := n_stands_many) (n := 1) rfl (dss_cons (ds_expr (hs := rfl) (de_callC (hdb := by decide) (he := rfl) (hpl := rfl) C_check_commands (hr.mono (by decide)) rfl (da_cons (hs := rfl) (de_v 0) da_nil))) (dss_one (ds_ret (de_callB (hn := by decide) (hdb := by decide) (he := rfl) (hpl := rfl) (k_len (K := K) rfl) nx_len rfl B.b_len (by decide +kernel) (db_cons (hs := rfl) (dq_of (de_callT (T := T) C_stands_from (hr.mono (by decide)) rfl (da_cons (hs := rfl) (de_v 0) (da_cons (hs := rfl) (de_callC (hdb := by decide) (he := rfl) (hpl := rfl) C_first_stand (hr.mono (by decide)) rfl (da_cons (hs := rfl) (de_v 0) da_nil)) da_nil)) (by decide) rfl rfl)) db_nil))))) h
theorem cal_stands_many {h : Heap} (X : K.In h) (G : h.Ns mainGlobals mg) (A : FunAt K "stands_many" s_stands_many) (B : Bt mg) (C_check_commands : Callee P w K mg base "check_commands" 5 m_check_commands) (C_first_stand : Callee P w K mg base "first_stand" 1 m_first_stand) (C_stands_from : CalleeT P w K mg base T "stands_from" 4 m_stands_from) : CalleeT P w K mg base T "stands_many" 6 m_stands_many := by
  obtain ⟨f, fd, a, F⟩ := A
  exact ⟨f, fd, ["commands"], ok_stands_many F B C_check_commands C_first_stand C_stands_from, PySem.W.mg_of X G a, F.kp, F.binds fun _ _ _ _ _ _ us hl => match us, hl with | [_], _ => rfl⟩
abbrev s_back_word : Stmt := topS 53
abbrev n_back_word : List Str := ["commands", "number"]
theorem sc_back_word : FnScope n_back_word ["commands", "number"] (defScope s_back_word) := ⟨rfl, rfl, rfl, by decide +kernel, rfl, by decide +kernel, by decide +kernel⟩
def m_back_word : List D → Res D := runF 2 2 (sSeq (sDrop (eFn (fun ds => noX (m_check_commands ds)) (aCons (eV 0) aNil))) (sSeq (sDrop (eFn (fun ds => noX (m_check_number ds)) (aCons (eV 0) (aCons (eV 1) aNil)))) (sRet (eFn (fun ds => noX (m_word_to ds)) (aCons (eV 0) (aCons (e2 ixD (eV 0) (eV 1)) (aCons (eFn (fun ds => noX (m_first_stand ds)) (aCons (eV 0) aNil)) aNil)))))))
theorem ok_back_word {f : Addr} {fd : FuncData} (F : Fun K "back_word" "back_word" s_back_word f fd) (B : Bt mg) (C_check_commands : Callee P w K mg base "check_commands" 5 m_check_commands) (C_check_number : Callee P w K mg base "check_number" 3 m_check_number) (C_first_stand : Callee P w K mg base "first_stand" 1 m_first_stand) (C_word_to : CalleeT P w K mg base T "word_to" 5 m_word_to) : FnOk P w K mg base CX0 6 f fd ["commands", "number"] (spT T m_back_word) := by
  refine F.ok sc_back_word (fun vs H Q E h => spT_len h) (fun cdv A outer s H vs Q E hr h => ?_)
  have hu : (A.deeper (envOfC "back_word" (defScope s_back_word) s.heap.objs.size f cdv)).units + 64 < cLine := hr.units
  have hu1 : (A.deeper (envOfC "back_word" (defScope s_back_word) s.heap.objs.size f cdv)).units + 1 < cLine := hu_of hr
  have hu2 : (A.deeper (envOfC "back_word" (defScope s_back_word) s.heap.objs.size f cdv)).units + 65 < cLine := by have := hr.un; omega
  exact body_endT (Nm := n_back_word) (n := 2) rfl (dss_cons (ds_expr (hs := rfl) (de_callC (hdb := by decide) (he := rfl) (hpl := rfl) C_check_commands (hr.mono (by decide)) rfl (da_cons (hs := rfl) (de_v 0) da_nil))) (dss_cons (ds_expr (hs := rfl) (de_callC (hdb := by decide) (he := rfl) (hpl := rfl) C_check_number (hr.mono (by decide)) rfl (da_cons (hs := rfl) (de_v 0) (da_cons (hs := rfl) (de_v 1) da_nil)))) (dss_one (ds_ret (de_callT (T := T) C_word_to (hr.mono (by decide)) rfl (da_cons (hs := rfl) (de_v 0) (da_cons (hs := rfl) (k_ix (hs := fun _ _ => rfl) (K := K) rfl (dq_of (de_v 0)) (dq_of (de_v 1))) (da_cons (hs := rfl) (de_callC (hdb := by decide) (he := rfl) (hpl := rfl) C_first_stand (hr.mono (by decide)) rfl (da_cons (hs := rfl) (de_v 0) da_nil)) da_nil))) (by decide) rfl rfl))))) h
theorem cal_back_word {h : Heap} (X : K.In h) (G : h.Ns mainGlobals mg) (A : FunAt K "back_word" s_back_word) (B : Bt mg) (C_check_commands : Callee P w K mg base "check_commands" 5 m_check_commands) (C_check_number : Callee P w K mg base "check_number" 3 m_check_number) (C_first_stand : Callee P w K mg base "first_stand" 1 m_first_stand) (C_word_to : CalleeT P w K mg base T "word_to" 5 m_word_to) : CalleeT P w K mg base T "back_word" 6 m_back_word := by
  obtain ⟨f, fd, a, F⟩ := A
  exact ⟨f, fd, ["commands", "number"], ok_back_word F B C_check_commands C_check_number C_first_stand C_word_to, PySem.W.mg_of X G a, F.kp, F.binds fun _ _ _ _ _ _ us hl => match us, hl with | [_, _], _ => rfl⟩
abbrev s_order_of : Stmt := topS 54
abbrev n_order_of : List Str := ["commands", "word", "begin", "here", "found"]
theorem sc_order_of : FnScope n_order_of ["commands", "word"] (defScope s_order_of) := ⟨rfl, rfl, rfl, by decide +kernel, rfl, by decide +kernel, by decide +kernel⟩
def m_order_of : List D → Res D := runF 2 5 (sSeq (sDrop (eFn (fun ds => noX (m_check_commands ds)) (aCons (eV 0) aNil))) (sSeq (sDrop (eFn (fun ds => noX (m_check_word ds)) (aCons (eV 0) (aCons (eV 1) aNil)))) (sSeq (sSet 2 (eFn (fun ds => noX (m_first_stand ds)) (aCons (eV 0) aNil))) (sSeq (sPar 3 4 (mFr (eFn (fun ds => noX (m_raw_done ds)) (aCons (eV 0) (aCons (eV 2) (aCons (eV 1) aNil)))) (mFr (eC (.int 1)) mNil))) (sSeq (sWhile 1000 (tst (e2 neD (eV 3) (eV 2))) (sSeq (sSet 3 (eFn (fun ds => noX (m_raw_done ds)) (aCons (eV 0) (aCons (eV 3) (aCons (eV 1) aNil))))) (sAug 4 (i2 fun i j => i + j) (eC (.int 1))))) (sRet (eV 4)))))))
theorem ok_order_of {f : Addr} {fd : FuncData} (F : Fun K "order_of" "order_of" s_order_of f fd) (B : Bt mg) (C_check_commands : Callee P w K mg base "check_commands" 5 m_check_commands) (C_check_word : Callee P w K mg base "check_word" 5 m_check_word) (C_first_stand : Callee P w K mg base "first_stand" 1 m_first_stand) (C_raw_done : Callee P w K mg base "raw_done" 2 m_raw_done) : FnOk P w K mg base CX0 6 f fd ["commands", "word"] (spD m_order_of) := by
  refine F.ok sc_order_of (fun vs H Q E h => spD_len h) (fun cdv A outer s H vs Q E hr h => ?_)
  have hu : (A.deeper (envOfC "order_of" (defScope s_order_of) s.heap.objs.size f cdv)).units + 64 < cLine := hr.units
  have hu1 : (A.deeper (envOfC "order_of" (defScope s_order_of) s.heap.objs.size f cdv)).units + 1 < cLine := hu_of hr
  have hu2 : (A.deeper (envOfC "order_of" (defScope s_order_of) s.heap.objs.size f cdv)).units + 65 < cLine := by have := hr.un; omega
  exact body_end (Nm := n_order_of) (n := 2) rfl (dss_cons (ds_expr (hs := rfl) (de_callC (hdb := by decide) (he := rfl) (hpl := rfl) C_check_commands (hr.mono (by decide)) rfl (da_cons (hs := rfl) (de_v 0) da_nil))) (dss_cons (ds_expr (hs := rfl) (de_callC (hdb := by decide) (he := rfl) (hpl := rfl) C_check_word (hr.mono (by decide)) rfl (da_cons (hs := rfl) (de_v 0) (da_cons (hs := rfl) (de_v 1) da_nil)))) (dss_cons (ds_set (hs := rfl) (hf := .inl rfl) (i := 2) sc_order_of.nd rfl (by first | exact .inl rfl | exact .inr rfl) (de_callC (hdb := by decide) (he := rfl) (hpl := rfl) C_first_stand (hr.mono (by decide)) rfl (da_cons (hs := rfl) (de_v 0) da_nil))) (dss_cons (ds_par (hs := rfl) (i := 3) (j := 4) rfl sc_order_of.nd rfl rfl (by decide) rfl rfl (dm_fr (hs := rfl) (de_callC (hdb := by decide) (he := rfl) (hpl := rfl) C_raw_done (hr.mono (by decide)) rfl (da_cons (hs := rfl) (de_v 0) (da_cons (hs := rfl) (de_v 2) (da_cons (hs := rfl) (de_v 1) da_nil)))) (dm_fr (hs := rfl) de_int dm_nil)) (by rfl)) (dss_cons (ds_while 1000 PassesOwn.never (dt_cmp (k_ne (K := K) rfl hu) nx_ne (dq_of (de_v 3)) (dq_of (de_v 2)) (nomark _)) (dss_cons (ds_set (hs := rfl) (hf := .inl rfl) (i := 3) sc_order_of.nd rfl (by first | exact .inl rfl | exact .inr rfl) (de_callC (hdb := by decide) (he := rfl) (hpl := rfl) C_raw_done (hr.mono (by decide)) rfl (da_cons (hs := rfl) (de_v 0) (da_cons (hs := rfl) (de_v 3) (da_cons (hs := rfl) (de_v 1) da_nil))))) (dss_one (ds_aug (hf := .inl rfl) (i := 4) sc_order_of.nd rfl (by first | exact .inl rfl | exact .inr rfl) (dq_of de_int) ip_add rip_i nx_i2)))) (dss_one (ds_ret (de_v 4)))))))) h
theorem cal_order_of {h : Heap} (X : K.In h) (G : h.Ns mainGlobals mg) (A : FunAt K "order_of" s_order_of) (B : Bt mg) (C_check_commands : Callee P w K mg base "check_commands" 5 m_check_commands) (C_check_word : Callee P w K mg base "check_word" 5 m_check_word) (C_first_stand : Callee P w K mg base "first_stand" 1 m_first_stand) (C_raw_done : Callee P w K mg base "raw_done" 2 m_raw_done) : Callee P w K mg base "order_of" 6 m_order_of := by
  obtain ⟨f, fd, a, F⟩ := A
  exact ⟨f, fd, ["commands", "word"], ok_order_of F B C_check_commands C_check_word C_first_stand C_raw_done, PySem.W.mg_of X G a, F.kp, F.binds fun _ _ _ _ _ _ us hl => match us, hl with | [_, _], _ => rfl⟩
abbrev s_fewest_swaps : Stmt := topS 68
abbrev n_fewest_swaps : List Str := ["line"]
theorem sc_fewest_swaps : FnScope n_fewest_swaps ["line"] (defScope s_fewest_swaps) := ⟨rfl, rfl, rfl, by decide +kernel, rfl, by decide +kernel, by decide +kernel⟩
def m_fewest_swaps : List D → Res D := runF 1 1 (sSeq (sDrop (eFn (fun ds => noX (m_check_line ds)) (aCons (eV 0) aNil))) (sRet (eFn (fun ds => noX (m_raw_fewest ds)) (aCons (eV 0) aNil))))
theorem ok_fewest_swaps {f : Addr} {fd : FuncData} (F : Fun K "fewest_swaps" "fewest_swaps" s_fewest_swaps f fd) (B : Bt mg) (C_check_line : Callee P w K mg base "check_line" 5 m_check_line) (C_raw_fewest : Callee P w K mg base "raw_fewest" 3 m_raw_fewest) : FnOk P w K mg base CX0 6 f fd ["line"] (spD m_fewest_swaps) := by
  refine F.ok sc_fewest_swaps (fun vs H Q E h => spD_len h) (fun cdv A outer s H vs Q E hr h => ?_)
  have hu : (A.deeper (envOfC "fewest_swaps" (defScope s_fewest_swaps) s.heap.objs.size f cdv)).units + 64 < cLine := hr.units
  have hu1 : (A.deeper (envOfC "fewest_swaps" (defScope s_fewest_swaps) s.heap.objs.size f cdv)).units + 1 < cLine := hu_of hr
  have hu2 : (A.deeper (envOfC "fewest_swaps" (defScope s_fewest_swaps) s.heap.objs.size f cdv)).units + 65 < cLine := by have := hr.un; omega
  exact body_end (Nm := n_fewest_swaps) (n := 1) rfl (dss_cons (ds_expr (hs := rfl) (de_callC (hdb := by decide) (he := rfl) (hpl := rfl) C_check_line (hr.mono (by decide)) rfl (da_cons (hs := rfl) (de_v 0) da_nil))) (dss_one (ds_ret (de_callC (hdb := by decide) (he := rfl) (hpl := rfl) C_raw_fewest (hr.mono (by decide)) rfl (da_cons (hs := rfl) (de_v 0) da_nil))))) h
theorem cal_fewest_swaps {h : Heap} (X : K.In h) (G : h.Ns mainGlobals mg) (A : FunAt K "fewest_swaps" s_fewest_swaps) (B : Bt mg) (C_check_line : Callee P w K mg base "check_line" 5 m_check_line) (C_raw_fewest : Callee P w K mg base "raw_fewest" 3 m_raw_fewest) : Callee P w K mg base "fewest_swaps" 6 m_fewest_swaps := by
  obtain ⟨f, fd, a, F⟩ := A
  exact ⟨f, fd, ["line"], ok_fewest_swaps F B C_check_line C_raw_fewest, PySem.W.mg_of X G a, F.kp, F.binds fun _ _ _ _ _ _ us hl => match us, hl with | [_], _ => rfl⟩
abbrev s_swaps_to : Stmt := topS 71
abbrev n_swaps_to : List Str := ["line", "here", "found", "turn", "one", "other"]
theorem sc_swaps_to : FnScope n_swaps_to ["line"] (defScope s_swaps_to) := ⟨rfl, rfl, rfl, by decide +kernel, rfl, by decide +kernel, by decide +kernel⟩
def m_swaps_to : List D → Res D := runF 1 6 (sSeq (sDrop (eFn (fun ds => noX (m_check_line ds)) (aCons (eV 0) aNil))) (sSeq (sPar 1 2 (mTx (eCall tupleXD (aCons (eRgL (g1 (eCall lenD (aCons (eV 0) aNil)))) aNil)) (mOw (eLst aNil) mNil))) (sSeq (sFor (iRg1 (aCons (eFn (fun ds => noX (m_raw_fewest ds)) (aCons (eV 0) aNil)) aNil)) (tgN 3) (sSeq (sAsg (eFn (fun ds => noX (m_first_swap ds)) (aCons (eFn (fun ds => noX (m_left_to ds)) (aCons (eVx 1) (aCons (eV 0) aNil))) aNil)) (tgT (tgCons (tgN 4) (tgCons (tgN 5) tgNil)))) (sSeq (sApp 2 (eTup (aCons (eV 4) (aCons (eV 5) aNil)))) (sSetTx 1 (eFn (fun ds => noX (mX_swapped ds)) (aCons (eVx 1) (aCons (eV 4) (aCons (eV 5) aNil)))))))) (sRet (eCall tupleD (aCons (eVq 2) aNil))))))
theorem ok_swaps_to {f : Addr} {fd : FuncData} (F : Fun K "swaps_to" "swaps_to" s_swaps_to f fd) (B : Bt mg) (C_check_line : Callee P w K mg base "check_line" 5 m_check_line) (C_first_swap : Callee P w K mg base "first_swap" 2 m_first_swap) (C_left_to : CalleeX P w K mg base "left_to" 1 m_left_to) (C_raw_fewest : Callee P w K mg base "raw_fewest" 3 m_raw_fewest) (Cx_swapped : CalleeXX P w K mg base "swapped" 1 mX_swapped) : FnOk P w K mg base CX0 6 f fd ["line"] (spD m_swaps_to) := by
  refine F.ok sc_swaps_to (fun vs H Q E h => spD_len h) (fun cdv A outer s H vs Q E hr h => ?_)
  have hu : (A.deeper (envOfC "swaps_to" (defScope s_swaps_to) s.heap.objs.size f cdv)).units + 64 < cLine := hr.units
  have hu1 : (A.deeper (envOfC "swaps_to" (defScope s_swaps_to) s.heap.objs.size f cdv)).units + 1 < cLine := hu_of hr
  have hu2 : (A.deeper (envOfC "swaps_to" (defScope s_swaps_to) s.heap.objs.size f cdv)).units + 65 < cLine := by have := hr.un; omega
  exact body_end (Nm := n_swaps_to) (n := 1) rfl (dss_cons (ds_expr (hs := rfl) (de_callC (hdb := by decide) (he := rfl) (hpl := rfl) C_check_line (hr.mono (by decide)) rfl (da_cons (hs := rfl) (de_v 0) da_nil))) (dss_cons (ds_par (hs := rfl) (i := 1) (j := 2) rfl sc_swaps_to.nd rfl rfl (by decide) rfl rfl (dm_tx (hs := rfl) (dtx_tuple (hn := by decide) (hdb := by decide) (he := rfl) (hpl := rfl) (K := K) rfl rfl B.b_tuple (by decide +kernel) (db_cons (hs := rfl) (dq_of (de_of (dn_listRg (na := rfl) rfl rfl B.b_list (dr_1 (na := rfl) rfl B.b_range (dq_of (de_callB (hn := by decide) (hdb := by decide) (he := rfl) (hpl := rfl) (k_len (K := K) rfl) nx_len rfl B.b_len (by decide +kernel) (db_cons (hs := rfl) (dq_of (de_v 0)) db_nil))))))) db_nil)) (dm_ow (hs := rfl) (dn_lst da_nil) dm_nil)) (by rfl)) (dss_cons (ds_for (hs := fun _ => rfl) PassesOwn.never rfl (di_range1 (hs := rfl) rfl B.b_range (db_cons (hs := rfl) (dq_of (de_callC (hdb := by decide) (he := rfl) (hpl := rfl) C_raw_fewest (hr.mono (by decide)) rfl (da_cons (hs := rfl) (de_v 0) da_nil))) db_nil)) (dg_name (i := 3) sc_swaps_to.nd rfl (by first | exact .inl rfl | exact .inr rfl)) (dss_cons (ds_asg (hs := rfl) (hw := rfl) (h1 := rfl) (de_callC (hdb := by decide) (he := rfl) (hpl := rfl) C_first_swap (hr.mono (by decide)) rfl (da_cons (hs := rfl) (de_callX (hdb := by decide) (he := rfl) (hpl := rfl) C_left_to (hr.mono (by decide)) rfl (dax_cons (hs := rfl) (dtx_v 1) (da_cons (hs := rfl) (de_v 0) da_nil))) da_nil)) (ggtK (K := K) rfl rfl (by rfl) (by rfl) (tl_cons (tl_cons tl_nil)) (fun ds η w c _ => (ng_cons (ng_n 4) (ng_cons (ng_n 5) ng_nil)).2 ds η w c) (ggs (by rfl) (dg_name (i := 4) sc_swaps_to.nd rfl (by first | exact .inl rfl | exact .inr rfl)) (ggs (by rfl) (dg_name (i := 5) sc_swaps_to.nd rfl (by first | exact .inl rfl | exact .inr rfl)) dgs_nil)))) (dss_cons (ds_app (hN := rfl) (hv := by first | exact Or.inl rfl | exact Or.inr (Or.inl rfl)) (hb := rfl) (hf := rfl) (hl := rfl) (hs := rfl) (hp := rfl) (hsw := rfl) (hd := by decide) (hcd := by decide) 2 (he := (de_tup (da_cons (hs := rfl) (de_v 4) (da_cons (hs := rfl) (de_v 5) da_nil))))) (dss_one (ds_setTx (hs := rfl) (hf := .inl rfl) (i := 1) sc_swaps_to.nd rfl (by first | exact .inl rfl | exact .inr rfl) (dtx_callX (hdb := by decide) (he := rfl) (hpl := rfl) Cx_swapped (hr.mono (by decide)) rfl (dax_cons (hs := rfl) (dtx_v 1) (da_cons (hs := rfl) (de_v 4) (da_cons (hs := rfl) (de_v 5) da_nil))))))))) (dss_one (ds_ret (de_callTy (hn := by decide) (hdb := by decide) (he := rfl) (hpl := rfl) (k_tuple (K := K) rfl) nx_tuple rfl B.b_tuple (by decide +kernel) (db_cons (hs := rfl) (dq_v 2) db_nil))))))) h
theorem cal_swaps_to {h : Heap} (X : K.In h) (G : h.Ns mainGlobals mg) (A : FunAt K "swaps_to" s_swaps_to) (B : Bt mg) (C_check_line : Callee P w K mg base "check_line" 5 m_check_line) (C_first_swap : Callee P w K mg base "first_swap" 2 m_first_swap) (C_left_to : CalleeX P w K mg base "left_to" 1 m_left_to) (C_raw_fewest : Callee P w K mg base "raw_fewest" 3 m_raw_fewest) (Cx_swapped : CalleeXX P w K mg base "swapped" 1 mX_swapped) : Callee P w K mg base "swaps_to" 6 m_swaps_to := by
  obtain ⟨f, fd, a, F⟩ := A
  exact ⟨f, fd, ["line"], ok_swaps_to F B C_check_line C_first_swap C_left_to C_raw_fewest Cx_swapped, PySem.W.mg_of X G a, F.kp, F.binds fun _ _ _ _ _ _ us hl => match us, hl with | [_], _ => rfl⟩
abbrev s_rounds : Stmt := topS 73
abbrev n_rounds : List Str := ["line", "one"]
theorem sc_rounds : FnScope n_rounds ["line"] (defScope s_rounds) := ⟨rfl, rfl, rfl, by decide +kernel, rfl, by decide +kernel, by decide +kernel⟩
def m_rounds : List D → Res D := runF 1 2 (sSeq (sDrop (eFn (fun ds => noX (m_check_line ds)) (aCons (eV 0) aNil))) (sRet (eCall tupleD (aCons (eLc (iSeq (eFn (fun ds => noX (m_all_rounds ds)) (aCons (eV 0) aNil))) [1] (tgN 1) (tst (e2 gtD (eCall lenD (aCons (eV 1) aNil)) (eC (.int 1)))) (eV 1)) aNil))))
theorem ok_rounds {f : Addr} {fd : FuncData} (F : Fun K "rounds" "rounds" s_rounds f fd) (B : Bt mg) (C_all_rounds : Callee P w K mg base "all_rounds" 2 m_all_rounds) (C_check_line : Callee P w K mg base "check_line" 5 m_check_line) : FnOk P w K mg base CX0 6 f fd ["line"] (spD m_rounds) := by
  refine F.ok sc_rounds (fun vs H Q E h => spD_len h) (fun cdv A outer s H vs Q E hr h => ?_)
  have hu : (A.deeper (envOfC "rounds" (defScope s_rounds) s.heap.objs.size f cdv)).units + 64 < cLine := hr.units
  have hu1 : (A.deeper (envOfC "rounds" (defScope s_rounds) s.heap.objs.size f cdv)).units + 1 < cLine := hu_of hr
  have hu2 : (A.deeper (envOfC "rounds" (defScope s_rounds) s.heap.objs.size f cdv)).units + 65 < cLine := by have := hr.un; omega
  exact body_end (Nm := n_rounds) (n := 1) rfl (dss_cons (ds_expr (hs := rfl) (de_callC (hdb := by decide) (he := rfl) (hpl := rfl) C_check_line (hr.mono (by decide)) rfl (da_cons (hs := rfl) (de_v 0) da_nil))) (dss_one (ds_ret (de_callTy (hn := by decide) (hdb := by decide) (he := rfl) (hpl := rfl) (k_tuple (K := K) rfl) nx_tuple rfl B.b_tuple (by decide +kernel) (db_cons (hs := rfl) (dq_of (de_of (dn_lc (hs := fun _ => rfl) rfl sc_rounds.nd (own := [("one", 1)]) (g := (gName 1)) (dj_of (k_seq (K := K) rfl (de_callC (hdb := by decide) (he := rfl) (hpl := rfl) C_all_rounds (hr.mono (by decide)) rfl (da_cons (hs := rfl) (de_v 0) da_nil)))) (blkOk_by (own := [("one", 1)]) (N := n_rounds) (sc := defScope s_rounds) (by decide +kernel)) (fun _ _ _ _ _ => (dgn_name (i := 1) sc_rounds.nd rfl (by first | exact .inl rfl | exact .inr rfl))) (ng_n 1) (by decide) (fun _ _ _ _ _ => dts_one (dt_cmp o_gt nx_c2 (dq_of (de_callB (hn := by decide) (hdb := by decide) (he := rfl) (hpl := rfl) (k_len (K := K) rfl) nx_len rfl B.b_len (by decide +kernel) (db_cons (hs := rfl) (dq_of (de_v 1)) db_nil))) (dq_of de_int) (nomark _))) (fun _ _ _ _ _ => (de_v 1))))) db_nil))))) h
theorem cal_rounds {h : Heap} (X : K.In h) (G : h.Ns mainGlobals mg) (A : FunAt K "rounds" s_rounds) (B : Bt mg) (C_all_rounds : Callee P w K mg base "all_rounds" 2 m_all_rounds) (C_check_line : Callee P w K mg base "check_line" 5 m_check_line) : Callee P w K mg base "rounds" 6 m_rounds := by
  obtain ⟨f, fd, a, F⟩ := A
  exact ⟨f, fd, ["line"], ok_rounds F B C_all_rounds C_check_line, PySem.W.mg_of X G a, F.kp, F.binds fun _ _ _ _ _ _ us hl => match us, hl with | [_], _ => rfl⟩
abbrev s_same_ring : Stmt := topS 82
abbrev n_same_ring : List Str := ["one", "other"]
theorem sc_same_ring : FnScope n_same_ring ["one", "other"] (defScope s_same_ring) := ⟨rfl, rfl, rfl, by decide +kernel, rfl, by decide +kernel, by decide +kernel⟩
def m_same_ring : List D → Res D := runF 2 2 (sSeq (sDrop (eFn (fun ds => noX (m_check_both ds)) (aCons (eV 0) (aCons (eV 1) aNil)))) (sRet (e2 inD (eV 1) (eFn (fun ds => noX (m_all_turns ds)) (aCons (eV 0) aNil)))))
theorem ok_same_ring {f : Addr} {fd : FuncData} (F : Fun K "same_ring" "same_ring" s_same_ring f fd) (B : Bt mg) (C_all_turns : Callee P w K mg base "all_turns" 2 m_all_turns) (C_check_both : Callee P w K mg base "check_both" 5 m_check_both) : FnOk P w K mg base CX0 6 f fd ["one", "other"] (spD m_same_ring) := by
  refine F.ok sc_same_ring (fun vs H Q E h => spD_len h) (fun cdv A outer s H vs Q E hr h => ?_)
  have hu : (A.deeper (envOfC "same_ring" (defScope s_same_ring) s.heap.objs.size f cdv)).units + 64 < cLine := hr.units
  have hu1 : (A.deeper (envOfC "same_ring" (defScope s_same_ring) s.heap.objs.size f cdv)).units + 1 < cLine := hu_of hr
  have hu2 : (A.deeper (envOfC "same_ring" (defScope s_same_ring) s.heap.objs.size f cdv)).units + 65 < cLine := by have := hr.un; omega
  exact body_end (Nm := n_same_ring) (n := 2) rfl (dss_cons (ds_expr (hs := rfl) (de_callC (hdb := by decide) (he := rfl) (hpl := rfl) C_check_both (hr.mono (by decide)) rfl (da_cons (hs := rfl) (de_v 0) (da_cons (hs := rfl) (de_v 1) da_nil)))) (dss_one (ds_ret (de_cmp (k_in (K := K) rfl hu) nx_in (dq_of (de_v 1)) (dq_of (de_callC (hdb := by decide) (he := rfl) (hpl := rfl) C_all_turns (hr.mono (by decide)) rfl (da_cons (hs := rfl) (de_v 0) da_nil))) (by with_unfolding_all rfl))))) h
theorem cal_same_ring {h : Heap} (X : K.In h) (G : h.Ns mainGlobals mg) (A : FunAt K "same_ring" s_same_ring) (B : Bt mg) (C_all_turns : Callee P w K mg base "all_turns" 2 m_all_turns) (C_check_both : Callee P w K mg base "check_both" 5 m_check_both) : Callee P w K mg base "same_ring" 6 m_same_ring := by
  obtain ⟨f, fd, a, F⟩ := A
  exact ⟨f, fd, ["one", "other"], ok_same_ring F B C_all_turns C_check_both, PySem.W.mg_of X G a, F.kp, F.binds fun _ _ _ _ _ _ us hl => match us, hl with | [_, _], _ => rfl⟩
abbrev s_turns_to : Stmt := topS 83
abbrev n_turns_to : List Str := ["one", "other", "some"]
theorem sc_turns_to : FnScope n_turns_to ["one", "other"] (defScope s_turns_to) := ⟨rfl, rfl, rfl, by decide +kernel, rfl, by decide +kernel, by decide +kernel⟩
def m_turns_to : List D → Res D := runF 2 3 (sSeq (sDrop (eFn (fun ds => noX (m_check_both ds)) (aCons (eV 0) (aCons (eV 1) aNil)))) (sSeq (sSet 2 (eFn (fun ds => noX (m_all_turns ds)) (aCons (eV 0) aNil))) (sRet (eIf (tst (e2 inD (eV 1) (eV 2))) (eIndex (eV 2) (eV 1)) (eC .none)))))
theorem ok_turns_to {f : Addr} {fd : FuncData} (F : Fun K "turns_to" "turns_to" s_turns_to f fd) (B : Bt mg) (C_all_turns : Callee P w K mg base "all_turns" 2 m_all_turns) (C_check_both : Callee P w K mg base "check_both" 5 m_check_both) : FnOk P w K mg base CX0 6 f fd ["one", "other"] (spD m_turns_to) := by
  refine F.ok sc_turns_to (fun vs H Q E h => spD_len h) (fun cdv A outer s H vs Q E hr h => ?_)
  have hu : (A.deeper (envOfC "turns_to" (defScope s_turns_to) s.heap.objs.size f cdv)).units + 64 < cLine := hr.units
  have hu1 : (A.deeper (envOfC "turns_to" (defScope s_turns_to) s.heap.objs.size f cdv)).units + 1 < cLine := hu_of hr
  have hu2 : (A.deeper (envOfC "turns_to" (defScope s_turns_to) s.heap.objs.size f cdv)).units + 65 < cLine := by have := hr.un; omega
  exact body_end (Nm := n_turns_to) (n := 2) rfl (dss_cons (ds_expr (hs := rfl) (de_callC (hdb := by decide) (he := rfl) (hpl := rfl) C_check_both (hr.mono (by decide)) rfl (da_cons (hs := rfl) (de_v 0) (da_cons (hs := rfl) (de_v 1) da_nil)))) (dss_cons (ds_set (hs := rfl) (hf := .inl rfl) (i := 2) sc_turns_to.nd rfl (by first | exact .inl rfl | exact .inr rfl) (de_callC (hdb := by decide) (he := rfl) (hpl := rfl) C_all_turns (hr.mono (by decide)) rfl (da_cons (hs := rfl) (de_v 0) da_nil))) (dss_one (ds_ret (de_if (dt_cmp (k_in (K := K) rfl hu) nx_in (dq_of (de_v 1)) (dq_of (de_v 2)) (by with_unfolding_all rfl)) (k_index (hbs := rfl) (hf := rfl) (hl := rfl) (hs := rfl) (hp := rfl) (K := K) rfl hu hu2 (dq_of (de_v 2)) (dq_of (de_v 1))) de_non))))) h
theorem cal_turns_to {h : Heap} (X : K.In h) (G : h.Ns mainGlobals mg) (A : FunAt K "turns_to" s_turns_to) (B : Bt mg) (C_all_turns : Callee P w K mg base "all_turns" 2 m_all_turns) (C_check_both : Callee P w K mg base "check_both" 5 m_check_both) : Callee P w K mg base "turns_to" 6 m_turns_to := by
  obtain ⟨f, fd, a, F⟩ := A
  exact ⟨f, fd, ["one", "other"], ok_turns_to F B C_all_turns C_check_both, PySem.W.mg_of X G a, F.kp, F.binds fun _ _ _ _ _ _ us hl => match us, hl with | [_, _], _ => rfl⟩
abbrev s__law_is_thrown_right : Stmt := topS 93
abbrev n__law_is_thrown_right : List Str := ["size", "step", "part", "throws_now", "first"]
theorem sc__law_is_thrown_right : FnScope n__law_is_thrown_right ["size", "step", "part"] (defScope s__law_is_thrown_right) := ⟨rfl, rfl, rfl, by decide +kernel, rfl, by decide +kernel, by decide +kernel⟩
def m__law_is_thrown_right : List D → Res D := runF 3 5 (sSeq (sSet 3 (e2 mulD (eTup (aCons (eV 1) aNil)) (eV 0))) (sSeq (sIf (tOrF (tst (e2 isnD (eFn (fun ds => noX (m_clash ds)) (aCons (eV 3) aNil)) (eC .none))) (tOrF (tst (e2 neD (eFn (fun ds => noX (m_balls ds)) (aCons (eV 3) aNil)) (eV 1))) (tst (e2 neD (eFn (fun ds => noX (m_turned ds)) (aCons (eV 3) (aCons (eC (.int 1)) aNil))) (eV 3))))) (sRet (eC (.bool false))) sNil) (sRet (e2 eqD (eFn (fun ds => noX (m_cycles ds)) (aCons (eV 3) aNil)) (eCall tupleD (aCons (eLc (iRg1 (aCons (eV 2) aNil)) [4] (tgN 4) tYesF (eTupRg3 (aCons (eV 4) (aCons (eV 0) (aCons (eV 2) aNil))))) aNil))))))
theorem ok__law_is_thrown_right {f : Addr} {fd : FuncData} (F : Fun K "_law_is_thrown_right" "_law_is_thrown_right" s__law_is_thrown_right f fd) (B : Bt mg) (C_balls : Callee P w K mg base "balls" 6 m_balls) (C_clash : Callee P w K mg base "clash" 5 m_clash) (C_cycles : Callee P w K mg base "cycles" 6 m_cycles) (C_turned : Callee P w K mg base "turned" 5 m_turned) : FnOk P w K mg base CX0 7 f fd ["size", "step", "part"] (spD m__law_is_thrown_right) := by
  refine F.ok sc__law_is_thrown_right (fun vs H Q E h => spD_len h) (fun cdv A outer s H vs Q E hr h => ?_)
  have hu : (A.deeper (envOfC "_law_is_thrown_right" (defScope s__law_is_thrown_right) s.heap.objs.size f cdv)).units + 64 < cLine := hr.units
  have hu1 : (A.deeper (envOfC "_law_is_thrown_right" (defScope s__law_is_thrown_right) s.heap.objs.size f cdv)).units + 1 < cLine := hu_of hr
  have hu2 : (A.deeper (envOfC "_law_is_thrown_right" (defScope s__law_is_thrown_right) s.heap.objs.size f cdv)).units + 65 < cLine := by have := hr.un; omega
  exact body_end (Nm := n__law_is_thrown_right) (n := 3) rfl (dss_cons (ds_set (hs := rfl) (hf := .inl rfl) (i := 3) sc__law_is_thrown_right.nd rfl (by first | exact .inl rfl | exact .inr rfl) (de_op (k_mul (K := K) rfl) nx_mul (dq_of (de_tup (da_cons (hs := rfl) (de_v 1) da_nil))) (dq_of (de_v 0)))) (dss_cons (ds_if (dt_of (dw_or (dt_cmp o_isn nx_isn (dq_of (de_callC (hdb := by decide) (he := rfl) (hpl := rfl) C_clash (hr.mono (by decide)) rfl (da_cons (hs := rfl) (de_v 3) da_nil))) (dq_of de_non) (nomark _)) (dw_or (dt_cmp (k_ne (K := K) rfl hu) nx_ne (dq_of (de_callC (hdb := by decide) (he := rfl) (hpl := rfl) C_balls (hr.mono (by decide)) rfl (da_cons (hs := rfl) (de_v 3) da_nil))) (dq_of (de_v 1)) (nomark _)) (dw_or1 (dt_cmp (k_ne (K := K) rfl hu) nx_ne (dq_of (de_callC (hdb := by decide) (he := rfl) (hpl := rfl) C_turned (hr.mono (by decide)) rfl (da_cons (hs := rfl) (de_v 3) (da_cons (hs := rfl) de_int da_nil)))) (dq_of (de_v 3)) (nomark _)))))) (dss_one (ds_ret de_bl)) dss_nil) (dss_one (ds_ret (de_cmp (k_eq (K := K) rfl hu) nx_eq (dq_of (de_callC (hdb := by decide) (he := rfl) (hpl := rfl) C_cycles (hr.mono (by decide)) rfl (da_cons (hs := rfl) (de_v 3) da_nil))) (dq_of (de_callTy (hn := by decide) (hdb := by decide) (he := rfl) (hpl := rfl) (k_tuple (K := K) rfl) nx_tuple rfl B.b_tuple (by decide +kernel) (db_cons (hs := rfl) (dq_of (de_of (dn_lc (hs := fun _ => rfl) rfl sc__law_is_thrown_right.nd (own := [("first", 4)]) (g := (gName 4)) (dj_of (di_range1 (hs := rfl) rfl B.b_range (db_cons (hs := rfl) (dq_of (de_v 2)) db_nil))) (blkOk_by (own := [("first", 4)]) (N := n__law_is_thrown_right) (sc := defScope s__law_is_thrown_right) (by decide +kernel)) (fun _ _ _ _ _ => (dgn_name (i := 4) sc__law_is_thrown_right.nd rfl (by first | exact .inl rfl | exact .inr rfl))) (ng_n 4) (by decide) (fun _ _ _ _ _ => dts_nil) (fun _ _ _ _ _ => (de_tupRg3 rfl rfl B.b_tuple rfl B.b_range (db_cons (hs := rfl) (dq_of (de_v 4)) (db_cons (hs := rfl) (dq_of (de_v 0)) (db_cons (hs := rfl) (dq_of (de_v 2)) db_nil))) rfl rfl rfl))))) db_nil))) (nomark _)))))) h
theorem cal__law_is_thrown_right {h : Heap} (X : K.In h) (G : h.Ns mainGlobals mg) (A : FunAt K "_law_is_thrown_right" s__law_is_thrown_right) (B : Bt mg) (C_balls : Callee P w K mg base "balls" 6 m_balls) (C_clash : Callee P w K mg base "clash" 5 m_clash) (C_cycles : Callee P w K mg base "cycles" 6 m_cycles) (C_turned : Callee P w K mg base "turned" 5 m_turned) : Callee P w K mg base "_law_is_thrown_right" 7 m__law_is_thrown_right := by
  obtain ⟨f, fd, a, F⟩ := A
  exact ⟨f, fd, ["size", "step", "part"], ok__law_is_thrown_right F B C_balls C_clash C_cycles C_turned, PySem.W.mg_of X G a, F.kp, F.binds fun _ _ _ _ _ _ us hl => match us, hl with | [_, _, _], _ => rfl⟩
abbrev s__law_is_turned_right : Stmt := topS 94
abbrev n__law_is_turned_right : List Str := ["size", "step", "part", "line", "lots", "cups_now", "stand", "times", "place", "one", "few"]
theorem sc__law_is_turned_right : FnScope n__law_is_turned_right ["size", "step", "part"] (defScope s__law_is_turned_right) := ⟨rfl, rfl, rfl, by decide +kernel, rfl, by decide +kernel, by decide +kernel⟩
def m__law_is_turned_right : List D → Res D := runF 3 11 (sSeq (sSet 3 (eCall tupleD (aCons (eLc (iRg1 (aCons (eV 0) aNil)) [8] (tgN 8) tYesF (e2 modD (eCall intD (aCons (e2 addD (eV 8) (eV 1)) aNil)) (eV 0))) aNil))) (sSeq (sIf (tst (e2 neD (eFn (fun ds => noX (m_fewest_swaps ds)) (aCons (eV 3) aNil)) (e2 subD (eV 0) (eV 2)))) (sRet (eC (.bool false))) sNil) (sSeq (sSet 4 (eCall tupleD (aCons (eLc (iSeq (eFn (fun ds => noX (m_rounds ds)) (aCons (eV 3) aNil))) [9] (tgN 9) tYesF (eCall tupleD (aCons (eCall sortedG (aCons (eV 9) aNil)) aNil))) aNil))) (sSeq (sIf (tst (e2 neD (eV 4) (eIf (tst (e2 ltD (eV 2) (eV 0))) (eFn (fun ds => noX (m_cycles ds)) (aCons (e2 mulD (eTup (aCons (eV 1) aNil)) (eV 0)) aNil)) (eTup aNil)))) (sRet (eC (.bool false))) sNil) (sSeq (sSet 5 (eCall maxG (aCons (eV 0) (aCons (eC (.int 2)) aNil)))) (sSeq (sIf (tOrF (tst (e2 isnD (eFn (fun ds => noX (m_same_end ds)) (aCons (eV 5) (aCons (eFn (fun ds => noX (m_swaps_to ds)) (aCons (eV 3) aNil)) (aCons (eFn (fun ds => noX (m_swaps_to ds)) (aCons (eV 3) aNil)) aNil)))) (eC (.bool true)))) (tst (e2 neD (eCall lenD (aCons (eFn (fun ds => noX (m_swaps_to ds)) (aCons (eV 3) aNil)) aNil)) (e2 subD (eV 0) (eV 2))))) (sRet (eC (.bool false))) sNil) (sSeq (sIf (tst (e2 gtD (eV 0) (eC (.int 4)))) (sRet (eC (.bool true))) sNil) (sSeq (sSet 6 (eRgT (g1 (eV 0)))) (sSeq (sSet 7 (e2 fdivD (eV 0) (eV 2))) (sSeq (sIf (tOrF (tst (e2 neD (eFn (fun ds => noX (m_order_of ds)) (aCons (eTup (aCons (eV 3) aNil)) (aCons (eTup (aCons (eC (.int 0)) aNil)) aNil))) (eV 7))) (tst (e2 neD (eFn (fun ds => noX (m_stands_many ds)) (aCons (eTup (aCons (eV 3) aNil)) aNil)) (eV 7)))) (sRet (eC (.bool false))) sNil) (sSeq (sIf (tOrF (tst (e2 neD (eFn (fun ds => noX (m_done ds)) (aCons (eTup (aCons (eV 3) aNil)) (aCons (eV 6) (aCons (e2 mulD (eTup (aCons (eC (.int 0)) aNil)) (eV 7)) aNil)))) (eV 6))) (tst (e2 neD (eCall lenD (aCons (eFn (fun ds => noX (m_back_word ds)) (aCons (eTup (aCons (eV 3) aNil)) (aCons (eC (.int 0)) aNil))) aNil)) (e2 subD (eV 7) (eC (.int 1)))))) (sRet (eC (.bool false))) sNil) (sRet (eCall allD (aCons (eLc (iRg2 (aCons (eC (.int 1)) (aCons (eV 7) aNil))) [10] (tgN 10) tYesF (e2 neD (eFn (fun ds => noX (m_done ds)) (aCons (eTup (aCons (eV 3) aNil)) (aCons (eV 6) (aCons (e2 mulD (eTup (aCons (eC (.int 0)) aNil)) (eV 10)) aNil)))) (eV 6))) aNil))))))))))))))
theorem ok__law_is_turned_right {f : Addr} {fd : FuncData} (F : Fun K "_law_is_turned_right" "_law_is_turned_right" s__law_is_turned_right f fd) (B : Bt mg) (C_back_word : CalleeT P w K mg base T "back_word" 6 m_back_word) (C_cycles : Callee P w K mg base "cycles" 6 m_cycles) (C_done : Callee P w K mg base "done" 6 m_done) (C_fewest_swaps : Callee P w K mg base "fewest_swaps" 6 m_fewest_swaps) (C_order_of : Callee P w K mg base "order_of" 6 m_order_of) (C_rounds : Callee P w K mg base "rounds" 6 m_rounds) (C_same_end : Callee P w K mg base "same_end" 5 m_same_end) (C_stands_many : CalleeT P w K mg base T "stands_many" 6 m_stands_many) (C_swaps_to : Callee P w K mg base "swaps_to" 6 m_swaps_to) : FnOk P w K mg base CX0 7 f fd ["size", "step", "part"] (spT T m__law_is_turned_right) := by
  refine F.ok sc__law_is_turned_right (fun vs H Q E h => spT_len h) (fun cdv A outer s H vs Q E hr h => ?_)
  have hu : (A.deeper (envOfC "_law_is_turned_right" (defScope s__law_is_turned_right) s.heap.objs.size f cdv)).units + 64 < cLine := hr.units
  have hu1 : (A.deeper (envOfC "_law_is_turned_right" (defScope s__law_is_turned_right) s.heap.objs.size f cdv)).units + 1 < cLine := hu_of hr
  have hu2 : (A.deeper (envOfC "_law_is_turned_right" (defScope s__law_is_turned_right) s.heap.objs.size f cdv)).units + 65 < cLine := by have := hr.un; omega
  exact body_endT (Nm := n__law_is_turned_right) (n := 3) rfl (dss_cons (ds_set (hs := rfl) (hf := .inl rfl) (i := 3) sc__law_is_turned_right.nd rfl (by first | exact .inl rfl | exact .inr rfl) (de_callTy (hn := by decide) (hdb := by decide) (he := rfl) (hpl := rfl) (k_tuple (K := K) rfl) nx_tuple rfl B.b_tuple (by decide +kernel) (db_cons (hs := rfl) (dq_of (de_of (dn_lc (hs := fun _ => rfl) rfl sc__law_is_turned_right.nd (own := [("place", 8)]) (g := (gName 8)) (dj_of (di_range1 (hs := rfl) rfl B.b_range (db_cons (hs := rfl) (dq_of (de_v 0)) db_nil))) (blkOk_by (own := [("place", 8)]) (N := n__law_is_turned_right) (sc := defScope s__law_is_turned_right) (by decide +kernel)) (fun _ _ _ _ _ => (dgn_name (i := 8) sc__law_is_turned_right.nd rfl (by first | exact .inl rfl | exact .inr rfl))) (ng_n 8) (by decide) (fun _ _ _ _ _ => dts_nil) (fun _ _ _ _ _ => (de_op o_mod nx_mod (dq_of (de_callTy (hn := by decide) (hdb := by decide) (he := rfl) (hpl := rfl) c_int nx_int rfl B.b_int (by decide +kernel) (db_cons (hs := rfl) (dq_of (de_op (k_add (K := K) rfl) nx_add (dq_of (de_v 8)) (dq_of (de_v 1)))) db_nil))) (dq_of (de_v 0))))))) db_nil))) (dss_cons (ds_if (dt_cmp (k_ne (K := K) rfl hu) nx_ne (dq_of (de_callC (hdb := by decide) (he := rfl) (hpl := rfl) C_fewest_swaps (hr.mono (by decide)) rfl (da_cons (hs := rfl) (de_v 3) da_nil))) (dq_of (de_op o_sub nx_i2 (dq_of (de_v 0)) (dq_of (de_v 2)))) (nomark _)) (dss_one (ds_ret de_bl)) dss_nil) (dss_cons (ds_set (hs := rfl) (hf := .inl rfl) (i := 4) sc__law_is_turned_right.nd rfl (by first | exact .inl rfl | exact .inr rfl) (de_callTy (hn := by decide) (hdb := by decide) (he := rfl) (hpl := rfl) (k_tuple (K := K) rfl) nx_tuple rfl B.b_tuple (by decide +kernel) (db_cons (hs := rfl) (dq_of (de_of (dn_lc (hs := fun _ => rfl) rfl sc__law_is_turned_right.nd (own := [("one", 9)]) (g := (gName 9)) (dj_of (k_seq (K := K) rfl (de_callC (hdb := by decide) (he := rfl) (hpl := rfl) C_rounds (hr.mono (by decide)) rfl (da_cons (hs := rfl) (de_v 3) da_nil)))) (blkOk_by (own := [("one", 9)]) (N := n__law_is_turned_right) (sc := defScope s__law_is_turned_right) (by decide +kernel)) (fun _ _ _ _ _ => (dgn_name (i := 9) sc__law_is_turned_right.nd rfl (by first | exact .inl rfl | exact .inr rfl))) (ng_n 9) (by decide) (fun _ _ _ _ _ => dts_nil) (fun _ _ _ _ _ => (de_callTy (hn := by decide) (hdb := by decide) (he := rfl) (hpl := rfl) (k_tuple (K := K) rfl) nx_tuple rfl B.b_tuple (by decide +kernel) (db_cons (hs := rfl) (dq_of (de_of (dn_callB (hn := by decide) (hdb := by decide) (he := rfl) (hpl := rfl) (k_sortedG (K := K) rfl rfl hu) nx_sortedG rfl B.b_sorted (by decide +kernel) (db_cons (hs := rfl) (dq_of (de_v 9)) db_nil)))) db_nil)))))) db_nil))) (dss_cons (ds_if (dt_cmp (k_ne (K := K) rfl hu) nx_ne (dq_of (de_v 4)) (dq_of (de_if (dt_cmp o_lt nx_c2 (dq_of (de_v 2)) (dq_of (de_v 0)) (nomark _)) (de_callC (hdb := by decide) (he := rfl) (hpl := rfl) C_cycles (hr.mono (by decide)) rfl (da_cons (hs := rfl) (de_op (k_mul (K := K) rfl) nx_mul (dq_of (de_tup (da_cons (hs := rfl) (de_v 1) da_nil))) (dq_of (de_v 0))) da_nil)) (de_tup da_nil))) (nomark _)) (dss_one (ds_ret de_bl)) dss_nil) (dss_cons (ds_set (hs := rfl) (hf := .inl rfl) (i := 5) sc__law_is_turned_right.nd rfl (by first | exact .inl rfl | exact .inr rfl) (de_callB (hn := by decide) (hdb := by decide) (he := rfl) (hpl := rfl) (k_maxG (K := K) rfl rfl hu) nx_maxG rfl B.b_max (by decide +kernel) (db_cons (hs := rfl) (dq_of (de_v 0)) (db_cons (hs := rfl) (dq_of de_int) db_nil)))) (dss_cons (ds_if (dt_of (dw_or (dt_cmp o_isn nx_isn (dq_of (de_callC (hdb := by decide) (he := rfl) (hpl := rfl) C_same_end (hr.mono (by decide)) rfl (da_cons (hs := rfl) (de_v 5) (da_cons (hs := rfl) (de_callC (hdb := by decide) (he := rfl) (hpl := rfl) C_swaps_to (hr.mono (by decide)) rfl (da_cons (hs := rfl) (de_v 3) da_nil)) (da_cons (hs := rfl) (de_callC (hdb := by decide) (he := rfl) (hpl := rfl) C_swaps_to (hr.mono (by decide)) rfl (da_cons (hs := rfl) (de_v 3) da_nil)) da_nil))))) (dq_of de_bl) (nomark _)) (dw_or1 (dt_cmp (k_ne (K := K) rfl hu) nx_ne (dq_of (de_callB (hn := by decide) (hdb := by decide) (he := rfl) (hpl := rfl) (k_len (K := K) rfl) nx_len rfl B.b_len (by decide +kernel) (db_cons (hs := rfl) (dq_of (de_callC (hdb := by decide) (he := rfl) (hpl := rfl) C_swaps_to (hr.mono (by decide)) rfl (da_cons (hs := rfl) (de_v 3) da_nil))) db_nil))) (dq_of (de_op o_sub nx_i2 (dq_of (de_v 0)) (dq_of (de_v 2)))) (nomark _))))) (dss_one (ds_ret de_bl)) dss_nil) (dss_cons (ds_if (dt_cmp o_gt nx_c2 (dq_of (de_v 0)) (dq_of de_int) (nomark _)) (dss_one (ds_ret de_bl)) dss_nil) (dss_cons (ds_set (hs := rfl) (hf := .inl rfl) (i := 6) sc__law_is_turned_right.nd rfl (by first | exact .inl rfl | exact .inr rfl) (de_tupRg (na := rfl) rfl rfl B.b_tuple (dr_1 (na := rfl) rfl B.b_range (dq_of (de_v 0))))) (dss_cons (ds_set (hs := rfl) (hf := .inl rfl) (i := 7) sc__law_is_turned_right.nd rfl (by first | exact .inl rfl | exact .inr rfl) (de_op o_fdiv nx_fdiv (dq_of (de_v 0)) (dq_of (de_v 2)))) (dss_cons (ds_if (dt_of (dw_or (dt_cmp (k_ne (K := K) rfl hu) nx_ne (dq_of (de_callC (hdb := by decide) (he := rfl) (hpl := rfl) C_order_of (hr.mono (by decide)) rfl (da_cons (hs := rfl) (de_tup (da_cons (hs := rfl) (de_v 3) da_nil)) (da_cons (hs := rfl) (de_tup (da_cons (hs := rfl) de_int da_nil)) da_nil)))) (dq_of (de_v 7)) (nomark _)) (dw_or1 (dt_cmp (k_ne (K := K) rfl hu) nx_ne (dq_of (de_callT (T := T) C_stands_many (hr.mono (by decide)) rfl (da_cons (hs := rfl) (de_tup (da_cons (hs := rfl) (de_v 3) da_nil)) da_nil) (by decide) rfl rfl)) (dq_of (de_v 7)) (nomark _))))) (dss_one (ds_ret de_bl)) dss_nil) (dss_cons (ds_if (dt_of (dw_or (dt_cmp (k_ne (K := K) rfl hu) nx_ne (dq_of (de_callC (hdb := by decide) (he := rfl) (hpl := rfl) C_done (hr.mono (by decide)) rfl (da_cons (hs := rfl) (de_tup (da_cons (hs := rfl) (de_v 3) da_nil)) (da_cons (hs := rfl) (de_v 6) (da_cons (hs := rfl) (de_op (k_mul (K := K) rfl) nx_mul (dq_of (de_tup (da_cons (hs := rfl) de_int da_nil))) (dq_of (de_v 7))) da_nil))))) (dq_of (de_v 6)) (nomark _)) (dw_or1 (dt_cmp (k_ne (K := K) rfl hu) nx_ne (dq_of (de_callB (hn := by decide) (hdb := by decide) (he := rfl) (hpl := rfl) (k_len (K := K) rfl) nx_len rfl B.b_len (by decide +kernel) (db_cons (hs := rfl) (dq_of (de_callT (T := T) C_back_word (hr.mono (by decide)) rfl (da_cons (hs := rfl) (de_tup (da_cons (hs := rfl) (de_v 3) da_nil)) (da_cons (hs := rfl) de_int da_nil)) (by decide) rfl rfl)) db_nil))) (dq_of (de_op o_sub nx_i2 (dq_of (de_v 7)) (dq_of de_int))) (nomark _))))) (dss_one (ds_ret de_bl)) dss_nil) (dss_one (ds_ret (de_callB (hn := by decide) (hdb := by decide) (he := rfl) (hpl := rfl) (k_all (K := K) rfl rfl) nx_all rfl B.b_all (by decide +kernel) (db_cons (hs := rfl) (dq_of (de_of (dn_lc (hs := fun _ => rfl) rfl sc__law_is_turned_right.nd (own := [("few", 10)]) (g := (gName 10)) (dj_of (di_range2 (hs := rfl) (hs2 := rfl) rfl B.b_range (db_cons (hs := rfl) (dq_of de_int) (db_cons (hs := rfl) (dq_of (de_v 7)) db_nil)))) (blkOk_by (own := [("few", 10)]) (N := n__law_is_turned_right) (sc := defScope s__law_is_turned_right) (by decide +kernel)) (fun _ _ _ _ _ => (dgn_name (i := 10) sc__law_is_turned_right.nd rfl (by first | exact .inl rfl | exact .inr rfl))) (ng_n 10) (by decide) (fun _ _ _ _ _ => dts_nil) (fun _ _ _ _ _ => (de_cmp (k_ne (K := K) rfl hu) nx_ne (dq_of (de_callC (hdb := by decide) (he := rfl) (hpl := rfl) C_done (hr.mono (by decide)) rfl (da_cons (hs := rfl) (de_tup (da_cons (hs := rfl) (de_v 3) da_nil)) (da_cons (hs := rfl) (de_v 6) (da_cons (hs := rfl) (de_op (k_mul (K := K) rfl) nx_mul (dq_of (de_tup (da_cons (hs := rfl) de_int da_nil))) (dq_of (de_v 10))) da_nil))))) (dq_of (de_v 6)) (nomark _)))))) db_nil))))))))))))))) h
theorem cal__law_is_turned_right {h : Heap} (X : K.In h) (G : h.Ns mainGlobals mg) (A : FunAt K "_law_is_turned_right" s__law_is_turned_right) (B : Bt mg) (C_back_word : CalleeT P w K mg base T "back_word" 6 m_back_word) (C_cycles : Callee P w K mg base "cycles" 6 m_cycles) (C_done : Callee P w K mg base "done" 6 m_done) (C_fewest_swaps : Callee P w K mg base "fewest_swaps" 6 m_fewest_swaps) (C_order_of : Callee P w K mg base "order_of" 6 m_order_of) (C_rounds : Callee P w K mg base "rounds" 6 m_rounds) (C_same_end : Callee P w K mg base "same_end" 5 m_same_end) (C_stands_many : CalleeT P w K mg base T "stands_many" 6 m_stands_many) (C_swaps_to : Callee P w K mg base "swaps_to" 6 m_swaps_to) : CalleeT P w K mg base T "_law_is_turned_right" 7 m__law_is_turned_right := by
  obtain ⟨f, fd, a, F⟩ := A
  exact ⟨f, fd, ["size", "step", "part"], ok__law_is_turned_right F B C_back_word C_cycles C_done C_fewest_swaps C_order_of C_rounds C_same_end C_stands_many C_swaps_to, PySem.W.mg_of X G a, F.kp, F.binds fun _ _ _ _ _ _ us hl => match us, hl with | [_, _, _], _ => rfl⟩
abbrev s__law_is_laid_right : Stmt := topS 95
abbrev n__law_is_laid_right : List Str := ["bag", "size", "part", "row", "by", "turned_row"]
theorem sc__law_is_laid_right : FnScope n__law_is_laid_right ["bag", "size", "part"] (defScope s__law_is_laid_right) := ⟨rfl, rfl, rfl, by decide +kernel, rfl, by decide +kernel, by decide +kernel⟩
def m__law_is_laid_right : List D → Bag → Res (D × Bag) := runS 2 6 (sSeq (sSet 3 (eFn (fun ds => noX (m_evenly ds)) (aCons (eV 1) (aCons (eV 2) aNil)))) (sSeq (sIf (tOrF (tst (e2 neD (eCall sumD (aCons (eV 3) aNil)) (eV 2))) (tOrF (tst (e2 neD (eFn (fun ds => noX (m_period ds)) (aCons (eV 3) aNil)) (e2 fdivD (eV 1) (eV 2)))) (tst (e2 neD (eFn (fun ds => noX (m_apart ds)) (aCons (eV 3) (aCons (eC (.int 1)) aNil))) (e2 fdivD (eV 1) (eV 2)))))) (sRet (eC (.bool false))) sNil) (sSeq (sSet 4 (eFnS 0 m__law_pick (aCons (eV 1) aNil))) (sSeq (sSet 5 (e2 addD (eSlice (eV 3) (oSome (eV 4)) oNone) (eSlice (eV 3) oNone (oSome (eV 4))))) (sSeq (sIf (tOrF (tst (e2 isnD (eFn (fun ds => noX (m_same_ring ds)) (aCons (eV 3) (aCons (eV 5) aNil))) (eC (.bool true)))) (tst (e2 neD (eFn (fun ds => noX (m_turns_to ds)) (aCons (eV 3) (aCons (eV 5) aNil))) (e2 modD (eCall intD (aCons (eV 4) aNil)) (e2 fdivD (eV 1) (eV 2)))))) (sRet (eC (.bool false))) sNil) (sRet (e2 eqD (eFn (fun ds => noX (m_least_turn ds)) (aCons (eV 5) aNil)) (eFn (fun ds => noX (m_least_turn ds)) (aCons (eV 3) aNil)))))))))
theorem ok__law_is_laid_right {f : Addr} {fd : FuncData} (F : Fun K "_law_is_laid_right" "_law_is_laid_right" s__law_is_laid_right f fd) (B : Bt mg) (C__law_pick : CalleeS P w K mg base "_law_pick" 1 bagR m__law_pick) (C_apart : Callee P w K mg base "apart" 5 m_apart) (C_evenly : Callee P w K mg base "evenly" 1 m_evenly) (C_least_turn : Callee P w K mg base "least_turn" 5 m_least_turn) (C_period : Callee P w K mg base "period" 5 m_period) (C_same_ring : Callee P w K mg base "same_ring" 6 m_same_ring) (C_turns_to : Callee P w K mg base "turns_to" 6 m_turns_to) : FnOk P w K mg base CX0 7 f fd ["bag", "size", "part"] (spS bagR m__law_is_laid_right) := by
  refine F.ok sc__law_is_laid_right (fun vs H Q E h => spS_len h) (fun cdv A outer s H vs Q E hr h => ?_)
  have hu : (A.deeper (envOfC "_law_is_laid_right" (defScope s__law_is_laid_right) s.heap.objs.size f cdv)).units + 64 < cLine := hr.units
  have hu1 : (A.deeper (envOfC "_law_is_laid_right" (defScope s__law_is_laid_right) s.heap.objs.size f cdv)).units + 1 < cLine := hu_of hr
  have hu2 : (A.deeper (envOfC "_law_is_laid_right" (defScope s__law_is_laid_right) s.heap.objs.size f cdv)).units + 65 < cLine := by have := hr.un; omega
  obtain ⟨i, h⟩ := h
  exact body_endS (Rs := bagR) (Nm := n__law_is_laid_right) (n := 2) rfl (dss_cons (ds_set (hs := rfl) (hf := .inl rfl) (i := 3) sc__law_is_laid_right.nd rfl (by first | exact .inl rfl | exact .inr rfl) (de_callC (hdb := by decide) (he := rfl) (hpl := rfl) C_evenly (hr.mono (by decide)) rfl (da_cons (hs := rfl) (de_v 1) (da_cons (hs := rfl) (de_v 2) da_nil)))) (dss_cons (ds_if (dt_of (dw_or (dt_cmp (k_ne (K := K) rfl hu) nx_ne (dq_of (de_callB (hn := by decide) (hdb := by decide) (he := rfl) (hpl := rfl) (k_sum (K := K) rfl rfl) nx_sum rfl B.b_sum (by decide +kernel) (db_cons (hs := rfl) (dq_of (de_v 3)) db_nil))) (dq_of (de_v 2)) (nomark _)) (dw_or (dt_cmp (k_ne (K := K) rfl hu) nx_ne (dq_of (de_callC (hdb := by decide) (he := rfl) (hpl := rfl) C_period (hr.mono (by decide)) rfl (da_cons (hs := rfl) (de_v 3) da_nil))) (dq_of (de_op o_fdiv nx_fdiv (dq_of (de_v 1)) (dq_of (de_v 2)))) (nomark _)) (dw_or1 (dt_cmp (k_ne (K := K) rfl hu) nx_ne (dq_of (de_callC (hdb := by decide) (he := rfl) (hpl := rfl) C_apart (hr.mono (by decide)) rfl (da_cons (hs := rfl) (de_v 3) (da_cons (hs := rfl) de_int da_nil)))) (dq_of (de_op o_fdiv nx_fdiv (dq_of (de_v 1)) (dq_of (de_v 2)))) (nomark _)))))) (dss_one (ds_ret de_bl)) dss_nil) (dss_cons (ds_set (hs := rfl) (hf := .inl rfl) (i := 4) sc__law_is_laid_right.nd rfl (by first | exact .inl rfl | exact .inr rfl) (de_callS (Rs := bagR) 0 C__law_pick (hr.mono (by decide)) rfl rfl (by first | exact Or.inl rfl | exact Or.inr (Or.inl rfl) | exact Or.inr (Or.inr rfl)) (by decide) (by decide) (da_cons (hs := rfl) (de_v 1) da_nil) (by decide) rfl rfl)) (dss_cons (ds_set (hs := rfl) (hf := .inl rfl) (i := 5) sc__law_is_laid_right.nd rfl (by first | exact .inl rfl | exact .inr rfl) (de_op (k_add (K := K) rfl) nx_add (dq_of (k_slice (K := K) rfl (dq_of (de_v 3)) (do_some (dq_of (de_v 4))) do_none)) (dq_of (k_slice (K := K) rfl (dq_of (de_v 3)) do_none (do_some (dq_of (de_v 4))))))) (dss_cons (ds_if (dt_of (dw_or (dt_cmp o_isn nx_isn (dq_of (de_callC (hdb := by decide) (he := rfl) (hpl := rfl) C_same_ring (hr.mono (by decide)) rfl (da_cons (hs := rfl) (de_v 3) (da_cons (hs := rfl) (de_v 5) da_nil)))) (dq_of de_bl) (nomark _)) (dw_or1 (dt_cmp (k_ne (K := K) rfl hu) nx_ne (dq_of (de_callC (hdb := by decide) (he := rfl) (hpl := rfl) C_turns_to (hr.mono (by decide)) rfl (da_cons (hs := rfl) (de_v 3) (da_cons (hs := rfl) (de_v 5) da_nil)))) (dq_of (de_op o_mod nx_mod (dq_of (de_callTy (hn := by decide) (hdb := by decide) (he := rfl) (hpl := rfl) c_int nx_int rfl B.b_int (by decide +kernel) (db_cons (hs := rfl) (dq_of (de_v 4)) db_nil))) (dq_of (de_op o_fdiv nx_fdiv (dq_of (de_v 1)) (dq_of (de_v 2)))))) (nomark _))))) (dss_one (ds_ret de_bl)) dss_nil) (dss_one (ds_ret (de_cmp (k_eq (K := K) rfl hu) nx_eq (dq_of (de_callC (hdb := by decide) (he := rfl) (hpl := rfl) C_least_turn (hr.mono (by decide)) rfl (da_cons (hs := rfl) (de_v 5) da_nil))) (dq_of (de_callC (hdb := by decide) (he := rfl) (hpl := rfl) C_least_turn (hr.mono (by decide)) rfl (da_cons (hs := rfl) (de_v 3) da_nil))) (nomark _))))))))) h
theorem cal__law_is_laid_right {h : Heap} (X : K.In h) (G : h.Ns mainGlobals mg) (A : FunAt K "_law_is_laid_right" s__law_is_laid_right) (B : Bt mg) (C__law_pick : CalleeS P w K mg base "_law_pick" 1 bagR m__law_pick) (C_apart : Callee P w K mg base "apart" 5 m_apart) (C_evenly : Callee P w K mg base "evenly" 1 m_evenly) (C_least_turn : Callee P w K mg base "least_turn" 5 m_least_turn) (C_period : Callee P w K mg base "period" 5 m_period) (C_same_ring : Callee P w K mg base "same_ring" 6 m_same_ring) (C_turns_to : Callee P w K mg base "turns_to" 6 m_turns_to) : CalleeS P w K mg base "_law_is_laid_right" 7 bagR m__law_is_laid_right := by
  obtain ⟨f, fd, a, F⟩ := A
  exact ⟨f, fd, ["bag", "size", "part"], ok__law_is_laid_right F B C__law_pick C_apart C_evenly C_least_turn C_period C_same_ring C_turns_to, PySem.W.mg_of X G a, F.kp, F.binds fun _ _ _ _ _ _ us hl => match us, hl with | [_, _, _], _ => rfl⟩
abbrev s_law : Stmt := topS 96
abbrev n_law : List Str := ["script", "bag", "lap", "size", "step", "part"]
theorem sc_law : FnScope n_law ["script"] (defScope s_law) := ⟨rfl, rfl, rfl, by decide +kernel, rfl, by decide +kernel, by decide +kernel⟩
def g_law : FS Bag := (sSeq (sIf (tOrF (tst (e2 neD (eFn (fun ds => noX (m_cycles ds)) (aCons (eTup (aCons (eC (.int 2)) (aCons (eC (.int 2)) (aCons (eC (.int 2)) (aCons (eC (.int 2)) aNil))))) aNil)) (eTup (aCons (eTup (aCons (eC (.int 0)) (aCons (eC (.int 2)) aNil))) (aCons (eTup (aCons (eC (.int 1)) (aCons (eC (.int 3)) aNil))) aNil))))) (tOrF (tst (e2 neD (eFn (fun ds => noX (m_period ds)) (aCons (eTup (aCons (eC (.int 1)) (aCons (eC (.int 0)) (aCons (eC (.int 1)) (aCons (eC (.int 0)) aNil))))) aNil)) (eC (.int 2)))) (tst (e2 neD (eFn (fun ds => noX (m_order_of ds)) (aCons (eTup (aCons (eTup (aCons (eC (.int 1)) (aCons (eC (.int 0)) aNil))) aNil)) (aCons (eTup (aCons (eC (.int 0)) aNil)) aNil))) (eC (.int 2)))))) (sRet (eC (.bool false))) sNil) (sSeq (sFor (iRg1 (aCons (eC (.int 7)) aNil)) (tgN 2) (sSeq (sPar 3 4 (mFr (e2 addD (eC (.int 2)) (eFnS 1 m__law_pick (aCons (eC (.int 7)) aNil))) (mFr (e2 addD (eC (.int 1)) (eFnS 1 m__law_pick (aCons (eC (.int 12)) aNil))) mNil))) (sSeq (sSet 5 (eFn (fun ds => noX (m__law_common ds)) (aCons (eV 3) (aCons (eV 4) aNil)))) (sSeq (sIf (tOrF (tNotF (tst (eFn (fun ds => noX (m__law_is_thrown_right ds)) (aCons (eV 3) (aCons (eV 4) (aCons (eV 5) aNil)))))) (tNotF (tst (eFn (fun ds => noX (m__law_is_turned_right ds)) (aCons (eV 3) (aCons (eV 4) (aCons (eV 5) aNil))))))) (sRet (eC (.bool false))) sNil) (sIf (tNotF (tst (eFnS 1 m__law_is_laid_right (aCons (eV 3) (aCons (eV 5) aNil))))) (sRet (eC (.bool false))) sNil))))) (sRet (eC (.bool true)))))
theorem ok_law {f : Addr} {fd : FuncData} (F : Fun K "law" "law" s_law f fd) (B : Bt mg) (C__law_common : Callee P w K mg base "_law_common" 1 m__law_common) (C__law_is_laid_right : CalleeS P w K mg base "_law_is_laid_right" 7 bagR m__law_is_laid_right) (C__law_is_thrown_right : Callee P w K mg base "_law_is_thrown_right" 7 m__law_is_thrown_right) (C__law_is_turned_right : CalleeT P w K mg base T "_law_is_turned_right" 7 m__law_is_turned_right) (C__law_pick : CalleeS P w K mg base "_law_pick" 1 bagR m__law_pick) (C_cycles : Callee P w K mg base "cycles" 6 m_cycles) (C_order_of : Callee P w K mg base "order_of" 6 m_order_of) (C_period : Callee P w K mg base "period" 5 m_period) {fB : Addr} {fdB : FuncData} (GB : FnOk P w K mg base CX0 1 fB fdB ["script"] (spBag K)) (gB : mg "_law_bag" = some (.ref fB)) (kB : PySem.W.keepIn K (.ref fB) = true) (bB : Binds K fdB ["script"] []) (good : ∀ b : Bag, ∃ b', g_law (Slot.un :: Slot.hd :: List.replicate 4 Slot.un) b = .ok (.rt (.bool true), b')) : FnOk P w K mg base CX0 8 f fd ["script"] (spLawT T K) := by
  refine F.ok sc_law (fun vs H Q E h => by obtain ⟨a, ns, rfl, _⟩ := h; rfl) (fun cdv A outer s H vs Q E hr h => ?_)
  have hu : (A.deeper (envOfC "law" (defScope s_law) s.heap.objs.size f cdv)).units + 64 < cLine := hr.units
  have hu1 : (A.deeper (envOfC "law" (defScope s_law) s.heap.objs.size f cdv)).units + 1 < cLine := hu_of hr
  have hu2 : (A.deeper (envOfC "law" (defScope s_law) s.heap.objs.size f cdv)).units + 65 < cLine := by have := hr.un; omega
  have rest : ∃ t, ∀ i, DSs (cxOf CX0 P w K mg base n_law "law" (defScope s_law) f cdv A outer s H E).nox (rT (bagR i) T) ((defBody s_law).drop 1) t g_law := ⟨_, fun i => (dss_cons (ds_if (dt_of (dw_or (dt_cmp (k_ne (K := K) rfl hu) nx_ne (dq_of (de_callC (hdb := by decide) (he := rfl) (hpl := rfl) C_cycles (hr.mono (by decide)) rfl (da_cons (hs := rfl) (de_tup (da_cons (hs := rfl) de_int (da_cons (hs := rfl) de_int (da_cons (hs := rfl) de_int (da_cons (hs := rfl) de_int da_nil))))) da_nil))) (dq_of (de_tup (da_cons (hs := rfl) (de_tup (da_cons (hs := rfl) de_int (da_cons (hs := rfl) de_int da_nil))) (da_cons (hs := rfl) (de_tup (da_cons (hs := rfl) de_int (da_cons (hs := rfl) de_int da_nil))) da_nil)))) (nomark _)) (dw_or (dt_cmp (k_ne (K := K) rfl hu) nx_ne (dq_of (de_callC (hdb := by decide) (he := rfl) (hpl := rfl) C_period (hr.mono (by decide)) rfl (da_cons (hs := rfl) (de_tup (da_cons (hs := rfl) de_int (da_cons (hs := rfl) de_int (da_cons (hs := rfl) de_int (da_cons (hs := rfl) de_int da_nil))))) da_nil))) (dq_of de_int) (nomark _)) (dw_or1 (dt_cmp (k_ne (K := K) rfl hu) nx_ne (dq_of (de_callC (hdb := by decide) (he := rfl) (hpl := rfl) C_order_of (hr.mono (by decide)) rfl (da_cons (hs := rfl) (de_tup (da_cons (hs := rfl) (de_tup (da_cons (hs := rfl) de_int (da_cons (hs := rfl) de_int da_nil))) da_nil)) (da_cons (hs := rfl) (de_tup (da_cons (hs := rfl) de_int da_nil)) da_nil)))) (dq_of de_int) (nomark _)))))) (dss_one (ds_ret de_bl)) dss_nil) (dss_cons (ds_for (hs := fun _ => rfl) PassesOwn.never rfl (di_range1 (hs := rfl) rfl B.b_range (db_cons (hs := rfl) (dq_of de_int) db_nil)) (dg_name (i := 2) sc_law.nd rfl (by first | exact .inl rfl | exact .inr rfl)) (dss_cons (ds_par (hs := rfl) (i := 3) (j := 4) rfl sc_law.nd rfl rfl (by decide) rfl rfl (dm_fr (hs := rfl) (de_op (k_add (K := K) rfl) nx_add (dq_of de_int) (dq_of (de_callST (Rs := bagR) (T := T) 1 C__law_pick (hr.mono (by decide)) rfl rfl (by first | exact Or.inl rfl | exact Or.inr (Or.inl rfl) | exact Or.inr (Or.inr rfl)) (by decide) (by decide) (da_cons (hs := rfl) de_int da_nil) (by decide) rfl rfl))) (dm_fr (hs := rfl) (de_op (k_add (K := K) rfl) nx_add (dq_of de_int) (dq_of (de_callST (Rs := bagR) (T := T) 1 C__law_pick (hr.mono (by decide)) rfl rfl (by first | exact Or.inl rfl | exact Or.inr (Or.inl rfl) | exact Or.inr (Or.inr rfl)) (by decide) (by decide) (da_cons (hs := rfl) de_int da_nil) (by decide) rfl rfl))) dm_nil)) (by rfl)) (dss_cons (ds_set (hs := rfl) (hf := .inl rfl) (i := 5) sc_law.nd rfl (by first | exact .inl rfl | exact .inr rfl) (de_callC (hdb := by decide) (he := rfl) (hpl := rfl) C__law_common (hr.mono (by decide)) rfl (da_cons (hs := rfl) (de_v 3) (da_cons (hs := rfl) (de_v 4) da_nil)))) (dss_cons (ds_if (dt_of (dw_or (dt_not (dt_val (he := fun _ => rfl) (de_callC (hdb := by decide) (he := rfl) (hpl := rfl) C__law_is_thrown_right (hr.mono (by decide)) rfl (da_cons (hs := rfl) (de_v 3) (da_cons (hs := rfl) (de_v 4) (da_cons (hs := rfl) (de_v 5) da_nil)))))) (dw_or1 (dt_not (dt_val (he := fun _ => rfl) (de_callT (T := T) C__law_is_turned_right (hr.mono (by decide)) rfl (da_cons (hs := rfl) (de_v 3) (da_cons (hs := rfl) (de_v 4) (da_cons (hs := rfl) (de_v 5) da_nil))) (by decide) rfl rfl)))))) (dss_one (ds_ret de_bl)) dss_nil) (dss_one (ds_if (dt_not (dt_val (he := fun _ => rfl) (de_callST (Rs := bagR) (T := T) 1 C__law_is_laid_right (hr.mono (by decide)) rfl rfl (by first | exact Or.inl rfl | exact Or.inr (Or.inl rfl) | exact Or.inr (Or.inr rfl)) (by decide) (by decide) (da_cons (hs := rfl) (de_v 3) (da_cons (hs := rfl) (de_v 5) da_nil)) (by decide) rfl rfl))) (dss_one (ds_ret de_bl)) dss_nil)))))) (dss_one (ds_ret de_bl))))⟩
  obtain ⟨t, rest⟩ := rest
  obtain ⟨a, ns, rfl, hS, hn, hT, q⟩ := h
  refine ⟨_, pss_cons (ps_set (i := 1) sc_law.nd rfl (by first | exact .inl rfl | exact .inr rfl) (pe_call GB (hr.mono (by decide)) (by rfl) gB kB bB .nil pass0 (pa_cons (pv 0) pa_nil))) (rest (0, 0)).ps, ?_⟩
  refine ⟨_, rfl, a, ns, rfl, hS, hn, fun H' p g b sm np ng hb => ?_⟩
  obtain ⟨b', e⟩ := good b
  refine (rest (p, g)).rf _ _ b _ _ H' (law_startT hb (hT.ext sm) 4) _ ?_
  rw [e]
  exact fun v F' H2 _ _ hv => by cases hv; exact q H2
end
end Lw

set_option autoImplicit true
namespace Lw
open PySem PySem.Spec PyProof.Rows L2 LamX NdefX Cw
instance s_pick : SmS m__law_pick ckPick := sm_pick
def ckLaid : List D → (D → Bool) → Bool := ckOfS (f := m__law_is_laid_right) (by unfold m__law_is_laid_right; infer_instance)
theorem s_laid0 : SmS m__law_is_laid_right ckLaid := by unfold m__law_is_laid_right ckLaid ckOfS; infer_instance
instance s_laid : SmS m__law_is_laid_right ckLaid := s_laid0
def headB : FS Bag := (sIf (tOrF (tst (e2 neD (eFn (fun ds => noX (m_cycles ds)) (aCons (eTup (aCons (eC (.int 2)) (aCons (eC (.int 2)) (aCons (eC (.int 2)) (aCons (eC (.int 2)) aNil))))) aNil)) (eTup (aCons (eTup (aCons (eC (.int 0)) (aCons (eC (.int 2)) aNil))) (aCons (eTup (aCons (eC (.int 1)) (aCons (eC (.int 3)) aNil))) aNil))))) (tOrF (tst (e2 neD (eFn (fun ds => noX (m_period ds)) (aCons (eTup (aCons (eC (.int 1)) (aCons (eC (.int 0)) (aCons (eC (.int 1)) (aCons (eC (.int 0)) aNil))))) aNil)) (eC (.int 2)))) (tst (e2 neD (eFn (fun ds => noX (m_order_of ds)) (aCons (eTup (aCons (eTup (aCons (eC (.int 1)) (aCons (eC (.int 0)) aNil))) aNil)) (aCons (eTup (aCons (eC (.int 0)) aNil)) aNil))) (eC (.int 2)))))) (sRet (eC (.bool false))) sNil)
def parB : FS Bag := (sPar 3 4 (mFr (e2 addD (eC (.int 2)) (eFnS 1 m__law_pick (aCons (eC (.int 7)) aNil))) (mFr (e2 addD (eC (.int 1)) (eFnS 1 m__law_pick (aCons (eC (.int 12)) aNil))) mNil)))
def restB : FS Bag := (sSeq (sSet 5 (eFn (fun ds => noX (m__law_common ds)) (aCons (eV 3) (aCons (eV 4) aNil)))) (sSeq (sIf (tOrF (tNotF (tst (eFn (fun ds => noX (m__law_is_thrown_right ds)) (aCons (eV 3) (aCons (eV 4) (aCons (eV 5) aNil)))))) (tNotF (tst (eFn (fun ds => noX (m__law_is_turned_right ds)) (aCons (eV 3) (aCons (eV 4) (aCons (eV 5) aNil))))))) (sRet (eC (.bool false))) sNil) (sIf (tNotF (tst (eFnS 1 m__law_is_laid_right (aCons (eV 3) (aCons (eV 5) aNil))))) (sRet (eC (.bool false))) sNil)))
def ckRest : Ck Out := ckOf (f := restB) (by unfold restB; infer_instance)
theorem s_rest : Sm restB ckRest := by unfold restB ckRest ckOf; infer_instance
def ckPar : Ck Out := ckOf (f := parB) (by unfold parB; infer_instance)
theorem s_par : Sm parB ckPar := by unfold parB ckPar ckOf; infer_instance
def ckHead : Ck Out := ckOf (f := headB) (by unfold headB; infer_instance)
theorem s_head : Sm headB ckHead := by unfold headB ckHead ckOf; infer_instance
/-- still in the loop -/
def still : Out → Bool
  | .nx [.un, .hd, _, _, _, _] => true
  | _ => false
theorem par_eq (Q : Out → Bool) (x y z u : Slot) : ckPar [.un, .hd, x, y, z, u] Q = allN 7 (fun a => allN 12 fun b => Q (.nx [.un, .hd, x, .fr (iD (2 + a)), .fr (iD (1 + b)), u])) := by kernel_rfl
theorem head_ok : ckHead [.un, .hd, .un, .un, .un, .un] still = true := by kernel_rfl
def LP (η : EnvD) : Prop := ∃ x y z u, η = [.un, .hd, x, y, z, u]
theorem still_eq {o : Out} (h : still o = true) : ∃ η, o = .nx η ∧ LP η := by
  unfold still at h
  split at h
  · exact ⟨_, rfl, _, _, _, _, rfl⟩
  · cases h
end Lw

set_option autoImplicit true
namespace Lw
open PySem PySem.Spec PyProof.Rows L2 LamX NdefX Cw
theorem leaf_0_0 (x y : Slot) : ckRest [.un, .hd, x, .fr (iD (2 + 0)), .fr (iD (1 + 0)), y] still = true := by kernel_rfl
theorem leaf_0_4 (x y : Slot) : ckRest [.un, .hd, x, .fr (iD (2 + 0)), .fr (iD (1 + 4)), y] still = true := by kernel_rfl
theorem leaf_0_8 (x y : Slot) : ckRest [.un, .hd, x, .fr (iD (2 + 0)), .fr (iD (1 + 8)), y] still = true := by kernel_rfl
theorem leaf_1_0 (x y : Slot) : ckRest [.un, .hd, x, .fr (iD (2 + 1)), .fr (iD (1 + 0)), y] still = true := by kernel_rfl
theorem leaf_1_4 (x y : Slot) : ckRest [.un, .hd, x, .fr (iD (2 + 1)), .fr (iD (1 + 4)), y] still = true := by kernel_rfl
theorem leaf_1_8 (x y : Slot) : ckRest [.un, .hd, x, .fr (iD (2 + 1)), .fr (iD (1 + 8)), y] still = true := by kernel_rfl
theorem leaf_2_0 (x y : Slot) : ckRest [.un, .hd, x, .fr (iD (2 + 2)), .fr (iD (1 + 0)), y] still = true := by kernel_rfl
theorem leaf_2_4 (x y : Slot) : ckRest [.un, .hd, x, .fr (iD (2 + 2)), .fr (iD (1 + 4)), y] still = true := by kernel_rfl
theorem leaf_2_8 (x y : Slot) : ckRest [.un, .hd, x, .fr (iD (2 + 2)), .fr (iD (1 + 8)), y] still = true := by kernel_rfl
theorem leaf_3_0 (x y : Slot) : ckRest [.un, .hd, x, .fr (iD (2 + 3)), .fr (iD (1 + 0)), y] still = true := by kernel_rfl
theorem leaf_3_4 (x y : Slot) : ckRest [.un, .hd, x, .fr (iD (2 + 3)), .fr (iD (1 + 4)), y] still = true := by kernel_rfl
theorem leaf_3_8 (x y : Slot) : ckRest [.un, .hd, x, .fr (iD (2 + 3)), .fr (iD (1 + 8)), y] still = true := by kernel_rfl
theorem leaf_4_0 (x y : Slot) : ckRest [.un, .hd, x, .fr (iD (2 + 4)), .fr (iD (1 + 0)), y] still = true := by kernel_rfl
theorem leaf_4_4 (x y : Slot) : ckRest [.un, .hd, x, .fr (iD (2 + 4)), .fr (iD (1 + 4)), y] still = true := by kernel_rfl
theorem leaf_4_8 (x y : Slot) : ckRest [.un, .hd, x, .fr (iD (2 + 4)), .fr (iD (1 + 8)), y] still = true := by kernel_rfl
theorem leaf_5_0 (x y : Slot) : ckRest [.un, .hd, x, .fr (iD (2 + 5)), .fr (iD (1 + 0)), y] still = true := by kernel_rfl
theorem leaf_5_4 (x y : Slot) : ckRest [.un, .hd, x, .fr (iD (2 + 5)), .fr (iD (1 + 4)), y] still = true := by kernel_rfl
theorem leaf_5_8 (x y : Slot) : ckRest [.un, .hd, x, .fr (iD (2 + 5)), .fr (iD (1 + 8)), y] still = true := by kernel_rfl
theorem leaf_6_0 (x y : Slot) : ckRest [.un, .hd, x, .fr (iD (2 + 6)), .fr (iD (1 + 0)), y] still = true := by kernel_rfl
theorem leaf_6_4 (x y : Slot) : ckRest [.un, .hd, x, .fr (iD (2 + 6)), .fr (iD (1 + 4)), y] still = true := by kernel_rfl
theorem leaf_6_8 (x y : Slot) : ckRest [.un, .hd, x, .fr (iD (2 + 6)), .fr (iD (1 + 8)), y] still = true := by kernel_rfl
end Lw

set_option autoImplicit true
namespace Lw
open PySem PySem.Spec PyProof.Rows L2 LamX NdefX Cw
theorem leaf_0_1 (x y : Slot) : ckRest [.un, .hd, x, .fr (iD (2 + 0)), .fr (iD (1 + 1)), y] still = true := by kernel_rfl
theorem leaf_0_5 (x y : Slot) : ckRest [.un, .hd, x, .fr (iD (2 + 0)), .fr (iD (1 + 5)), y] still = true := by kernel_rfl
theorem leaf_0_9 (x y : Slot) : ckRest [.un, .hd, x, .fr (iD (2 + 0)), .fr (iD (1 + 9)), y] still = true := by kernel_rfl
theorem leaf_1_1 (x y : Slot) : ckRest [.un, .hd, x, .fr (iD (2 + 1)), .fr (iD (1 + 1)), y] still = true := by kernel_rfl
theorem leaf_1_5 (x y : Slot) : ckRest [.un, .hd, x, .fr (iD (2 + 1)), .fr (iD (1 + 5)), y] still = true := by kernel_rfl
theorem leaf_1_9 (x y : Slot) : ckRest [.un, .hd, x, .fr (iD (2 + 1)), .fr (iD (1 + 9)), y] still = true := by kernel_rfl
theorem leaf_2_1 (x y : Slot) : ckRest [.un, .hd, x, .fr (iD (2 + 2)), .fr (iD (1 + 1)), y] still = true := by kernel_rfl
theorem leaf_2_5 (x y : Slot) : ckRest [.un, .hd, x, .fr (iD (2 + 2)), .fr (iD (1 + 5)), y] still = true := by kernel_rfl
theorem leaf_2_9 (x y : Slot) : ckRest [.un, .hd, x, .fr (iD (2 + 2)), .fr (iD (1 + 9)), y] still = true := by kernel_rfl
theorem leaf_3_1 (x y : Slot) : ckRest [.un, .hd, x, .fr (iD (2 + 3)), .fr (iD (1 + 1)), y] still = true := by kernel_rfl
theorem leaf_3_5 (x y : Slot) : ckRest [.un, .hd, x, .fr (iD (2 + 3)), .fr (iD (1 + 5)), y] still = true := by kernel_rfl
theorem leaf_3_9 (x y : Slot) : ckRest [.un, .hd, x, .fr (iD (2 + 3)), .fr (iD (1 + 9)), y] still = true := by kernel_rfl
theorem leaf_4_1 (x y : Slot) : ckRest [.un, .hd, x, .fr (iD (2 + 4)), .fr (iD (1 + 1)), y] still = true := by kernel_rfl
theorem leaf_4_5 (x y : Slot) : ckRest [.un, .hd, x, .fr (iD (2 + 4)), .fr (iD (1 + 5)), y] still = true := by kernel_rfl
theorem leaf_4_9 (x y : Slot) : ckRest [.un, .hd, x, .fr (iD (2 + 4)), .fr (iD (1 + 9)), y] still = true := by kernel_rfl
theorem leaf_5_1 (x y : Slot) : ckRest [.un, .hd, x, .fr (iD (2 + 5)), .fr (iD (1 + 1)), y] still = true := by kernel_rfl
theorem leaf_5_5 (x y : Slot) : ckRest [.un, .hd, x, .fr (iD (2 + 5)), .fr (iD (1 + 5)), y] still = true := by kernel_rfl
theorem leaf_5_9 (x y : Slot) : ckRest [.un, .hd, x, .fr (iD (2 + 5)), .fr (iD (1 + 9)), y] still = true := by kernel_rfl
theorem leaf_6_1 (x y : Slot) : ckRest [.un, .hd, x, .fr (iD (2 + 6)), .fr (iD (1 + 1)), y] still = true := by kernel_rfl
theorem leaf_6_5 (x y : Slot) : ckRest [.un, .hd, x, .fr (iD (2 + 6)), .fr (iD (1 + 5)), y] still = true := by kernel_rfl
theorem leaf_6_9 (x y : Slot) : ckRest [.un, .hd, x, .fr (iD (2 + 6)), .fr (iD (1 + 9)), y] still = true := by kernel_rfl
end Lw

set_option autoImplicit true
namespace Lw
open PySem PySem.Spec PyProof.Rows L2 LamX NdefX Cw
theorem leaf_0_2 (x y : Slot) : ckRest [.un, .hd, x, .fr (iD (2 + 0)), .fr (iD (1 + 2)), y] still = true := by kernel_rfl
theorem leaf_0_6 (x y : Slot) : ckRest [.un, .hd, x, .fr (iD (2 + 0)), .fr (iD (1 + 6)), y] still = true := by kernel_rfl
theorem leaf_0_10 (x y : Slot) : ckRest [.un, .hd, x, .fr (iD (2 + 0)), .fr (iD (1 + 10)), y] still = true := by kernel_rfl
theorem leaf_1_2 (x y : Slot) : ckRest [.un, .hd, x, .fr (iD (2 + 1)), .fr (iD (1 + 2)), y] still = true := by kernel_rfl
theorem leaf_1_6 (x y : Slot) : ckRest [.un, .hd, x, .fr (iD (2 + 1)), .fr (iD (1 + 6)), y] still = true := by kernel_rfl
theorem leaf_1_10 (x y : Slot) : ckRest [.un, .hd, x, .fr (iD (2 + 1)), .fr (iD (1 + 10)), y] still = true := by kernel_rfl
theorem leaf_2_2 (x y : Slot) : ckRest [.un, .hd, x, .fr (iD (2 + 2)), .fr (iD (1 + 2)), y] still = true := by kernel_rfl
theorem leaf_2_6 (x y : Slot) : ckRest [.un, .hd, x, .fr (iD (2 + 2)), .fr (iD (1 + 6)), y] still = true := by kernel_rfl
theorem leaf_2_10 (x y : Slot) : ckRest [.un, .hd, x, .fr (iD (2 + 2)), .fr (iD (1 + 10)), y] still = true := by kernel_rfl
theorem leaf_3_2 (x y : Slot) : ckRest [.un, .hd, x, .fr (iD (2 + 3)), .fr (iD (1 + 2)), y] still = true := by kernel_rfl
theorem leaf_3_6 (x y : Slot) : ckRest [.un, .hd, x, .fr (iD (2 + 3)), .fr (iD (1 + 6)), y] still = true := by kernel_rfl
theorem leaf_3_10 (x y : Slot) : ckRest [.un, .hd, x, .fr (iD (2 + 3)), .fr (iD (1 + 10)), y] still = true := by kernel_rfl
theorem leaf_4_2 (x y : Slot) : ckRest [.un, .hd, x, .fr (iD (2 + 4)), .fr (iD (1 + 2)), y] still = true := by kernel_rfl
theorem leaf_4_6 (x y : Slot) : ckRest [.un, .hd, x, .fr (iD (2 + 4)), .fr (iD (1 + 6)), y] still = true := by kernel_rfl
theorem leaf_4_10 (x y : Slot) : ckRest [.un, .hd, x, .fr (iD (2 + 4)), .fr (iD (1 + 10)), y] still = true := by kernel_rfl
theorem leaf_5_2 (x y : Slot) : ckRest [.un, .hd, x, .fr (iD (2 + 5)), .fr (iD (1 + 2)), y] still = true := by kernel_rfl
theorem leaf_5_6 (x y : Slot) : ckRest [.un, .hd, x, .fr (iD (2 + 5)), .fr (iD (1 + 6)), y] still = true := by kernel_rfl
theorem leaf_5_10 (x y : Slot) : ckRest [.un, .hd, x, .fr (iD (2 + 5)), .fr (iD (1 + 10)), y] still = true := by kernel_rfl
theorem leaf_6_2 (x y : Slot) : ckRest [.un, .hd, x, .fr (iD (2 + 6)), .fr (iD (1 + 2)), y] still = true := by kernel_rfl
theorem leaf_6_6 (x y : Slot) : ckRest [.un, .hd, x, .fr (iD (2 + 6)), .fr (iD (1 + 6)), y] still = true := by kernel_rfl
theorem leaf_6_10 (x y : Slot) : ckRest [.un, .hd, x, .fr (iD (2 + 6)), .fr (iD (1 + 10)), y] still = true := by kernel_rfl
end Lw

set_option autoImplicit true
namespace Lw
open PySem PySem.Spec PyProof.Rows L2 LamX NdefX Cw
theorem leaf_0_3 (x y : Slot) : ckRest [.un, .hd, x, .fr (iD (2 + 0)), .fr (iD (1 + 3)), y] still = true := by kernel_rfl
theorem leaf_0_7 (x y : Slot) : ckRest [.un, .hd, x, .fr (iD (2 + 0)), .fr (iD (1 + 7)), y] still = true := by kernel_rfl
theorem leaf_0_11 (x y : Slot) : ckRest [.un, .hd, x, .fr (iD (2 + 0)), .fr (iD (1 + 11)), y] still = true := by kernel_rfl
theorem leaf_1_3 (x y : Slot) : ckRest [.un, .hd, x, .fr (iD (2 + 1)), .fr (iD (1 + 3)), y] still = true := by kernel_rfl
theorem leaf_1_7 (x y : Slot) : ckRest [.un, .hd, x, .fr (iD (2 + 1)), .fr (iD (1 + 7)), y] still = true := by kernel_rfl
theorem leaf_1_11 (x y : Slot) : ckRest [.un, .hd, x, .fr (iD (2 + 1)), .fr (iD (1 + 11)), y] still = true := by kernel_rfl
theorem leaf_2_3 (x y : Slot) : ckRest [.un, .hd, x, .fr (iD (2 + 2)), .fr (iD (1 + 3)), y] still = true := by kernel_rfl
theorem leaf_2_7 (x y : Slot) : ckRest [.un, .hd, x, .fr (iD (2 + 2)), .fr (iD (1 + 7)), y] still = true := by kernel_rfl
theorem leaf_2_11 (x y : Slot) : ckRest [.un, .hd, x, .fr (iD (2 + 2)), .fr (iD (1 + 11)), y] still = true := by kernel_rfl
theorem leaf_3_3 (x y : Slot) : ckRest [.un, .hd, x, .fr (iD (2 + 3)), .fr (iD (1 + 3)), y] still = true := by kernel_rfl
theorem leaf_3_7 (x y : Slot) : ckRest [.un, .hd, x, .fr (iD (2 + 3)), .fr (iD (1 + 7)), y] still = true := by kernel_rfl
theorem leaf_3_11 (x y : Slot) : ckRest [.un, .hd, x, .fr (iD (2 + 3)), .fr (iD (1 + 11)), y] still = true := by kernel_rfl
theorem leaf_4_3 (x y : Slot) : ckRest [.un, .hd, x, .fr (iD (2 + 4)), .fr (iD (1 + 3)), y] still = true := by kernel_rfl
theorem leaf_4_7 (x y : Slot) : ckRest [.un, .hd, x, .fr (iD (2 + 4)), .fr (iD (1 + 7)), y] still = true := by kernel_rfl
theorem leaf_4_11 (x y : Slot) : ckRest [.un, .hd, x, .fr (iD (2 + 4)), .fr (iD (1 + 11)), y] still = true := by kernel_rfl
theorem leaf_5_3 (x y : Slot) : ckRest [.un, .hd, x, .fr (iD (2 + 5)), .fr (iD (1 + 3)), y] still = true := by kernel_rfl
theorem leaf_5_7 (x y : Slot) : ckRest [.un, .hd, x, .fr (iD (2 + 5)), .fr (iD (1 + 7)), y] still = true := by kernel_rfl
theorem leaf_5_11 (x y : Slot) : ckRest [.un, .hd, x, .fr (iD (2 + 5)), .fr (iD (1 + 11)), y] still = true := by kernel_rfl
theorem leaf_6_3 (x y : Slot) : ckRest [.un, .hd, x, .fr (iD (2 + 6)), .fr (iD (1 + 3)), y] still = true := by kernel_rfl
theorem leaf_6_7 (x y : Slot) : ckRest [.un, .hd, x, .fr (iD (2 + 6)), .fr (iD (1 + 7)), y] still = true := by kernel_rfl
theorem leaf_6_11 (x y : Slot) : ckRest [.un, .hd, x, .fr (iD (2 + 6)), .fr (iD (1 + 11)), y] still = true := by kernel_rfl
end Lw

set_option autoImplicit true
namespace Lw
open PySem PySem.Spec PyProof.Rows L2 LamX NdefX Cw
theorem leaf (a b : Nat) (ha : a < 7) (hb : b < 12) (x y : Slot) : ckRest [.un, .hd, x, .fr (iD (2 + a)), .fr (iD (1 + b)), y] still = true := by
  obtain rfl | rfl | rfl | rfl | rfl | rfl | rfl : a = 0 ∨ a = 1 ∨ a = 2 ∨ a = 3 ∨ a = 4 ∨ a = 5 ∨ a = 6 := by omega
  · obtain rfl | rfl | rfl | rfl | rfl | rfl | rfl | rfl | rfl | rfl | rfl | rfl : b = 0 ∨ b = 1 ∨ b = 2 ∨ b = 3 ∨ b = 4 ∨ b = 5 ∨ b = 6 ∨ b = 7 ∨ b = 8 ∨ b = 9 ∨ b = 10 ∨ b = 11 := by omega
    · exact leaf_0_0 x y
    · exact leaf_0_1 x y
    · exact leaf_0_2 x y
    · exact leaf_0_3 x y
    · exact leaf_0_4 x y
    · exact leaf_0_5 x y
    · exact leaf_0_6 x y
    · exact leaf_0_7 x y
    · exact leaf_0_8 x y
    · exact leaf_0_9 x y
    · exact leaf_0_10 x y
    · exact leaf_0_11 x y
  · obtain rfl | rfl | rfl | rfl | rfl | rfl | rfl | rfl | rfl | rfl | rfl | rfl : b = 0 ∨ b = 1 ∨ b = 2 ∨ b = 3 ∨ b = 4 ∨ b = 5 ∨ b = 6 ∨ b = 7 ∨ b = 8 ∨ b = 9 ∨ b = 10 ∨ b = 11 := by omega
    · exact leaf_1_0 x y
    · exact leaf_1_1 x y
    · exact leaf_1_2 x y
    · exact leaf_1_3 x y
    · exact leaf_1_4 x y
    · exact leaf_1_5 x y
    · exact leaf_1_6 x y
    · exact leaf_1_7 x y
    · exact leaf_1_8 x y
    · exact leaf_1_9 x y
    · exact leaf_1_10 x y
    · exact leaf_1_11 x y
  · obtain rfl | rfl | rfl | rfl | rfl | rfl | rfl | rfl | rfl | rfl | rfl | rfl : b = 0 ∨ b = 1 ∨ b = 2 ∨ b = 3 ∨ b = 4 ∨ b = 5 ∨ b = 6 ∨ b = 7 ∨ b = 8 ∨ b = 9 ∨ b = 10 ∨ b = 11 := by omega
    · exact leaf_2_0 x y
    · exact leaf_2_1 x y
    · exact leaf_2_2 x y
    · exact leaf_2_3 x y
    · exact leaf_2_4 x y
    · exact leaf_2_5 x y
    · exact leaf_2_6 x y
    · exact leaf_2_7 x y
    · exact leaf_2_8 x y
    · exact leaf_2_9 x y
    · exact leaf_2_10 x y
    · exact leaf_2_11 x y
  · obtain rfl | rfl | rfl | rfl | rfl | rfl | rfl | rfl | rfl | rfl | rfl | rfl : b = 0 ∨ b = 1 ∨ b = 2 ∨ b = 3 ∨ b = 4 ∨ b = 5 ∨ b = 6 ∨ b = 7 ∨ b = 8 ∨ b = 9 ∨ b = 10 ∨ b = 11 := by omega
    · exact leaf_3_0 x y
    · exact leaf_3_1 x y
    · exact leaf_3_2 x y
    · exact leaf_3_3 x y
    · exact leaf_3_4 x y
    · exact leaf_3_5 x y
    · exact leaf_3_6 x y
    · exact leaf_3_7 x y
    · exact leaf_3_8 x y
    · exact leaf_3_9 x y
    · exact leaf_3_10 x y
    · exact leaf_3_11 x y
  · obtain rfl | rfl | rfl | rfl | rfl | rfl | rfl | rfl | rfl | rfl | rfl | rfl : b = 0 ∨ b = 1 ∨ b = 2 ∨ b = 3 ∨ b = 4 ∨ b = 5 ∨ b = 6 ∨ b = 7 ∨ b = 8 ∨ b = 9 ∨ b = 10 ∨ b = 11 := by omega
    · exact leaf_4_0 x y
    · exact leaf_4_1 x y
    · exact leaf_4_2 x y
    · exact leaf_4_3 x y
    · exact leaf_4_4 x y
    · exact leaf_4_5 x y
    · exact leaf_4_6 x y
    · exact leaf_4_7 x y
    · exact leaf_4_8 x y
    · exact leaf_4_9 x y
    · exact leaf_4_10 x y
    · exact leaf_4_11 x y
  · obtain rfl | rfl | rfl | rfl | rfl | rfl | rfl | rfl | rfl | rfl | rfl | rfl : b = 0 ∨ b = 1 ∨ b = 2 ∨ b = 3 ∨ b = 4 ∨ b = 5 ∨ b = 6 ∨ b = 7 ∨ b = 8 ∨ b = 9 ∨ b = 10 ∨ b = 11 := by omega
    · exact leaf_5_0 x y
    · exact leaf_5_1 x y
    · exact leaf_5_2 x y
    · exact leaf_5_3 x y
    · exact leaf_5_4 x y
    · exact leaf_5_5 x y
    · exact leaf_5_6 x y
    · exact leaf_5_7 x y
    · exact leaf_5_8 x y
    · exact leaf_5_9 x y
    · exact leaf_5_10 x y
    · exact leaf_5_11 x y
  · obtain rfl | rfl | rfl | rfl | rfl | rfl | rfl | rfl | rfl | rfl | rfl | rfl : b = 0 ∨ b = 1 ∨ b = 2 ∨ b = 3 ∨ b = 4 ∨ b = 5 ∨ b = 6 ∨ b = 7 ∨ b = 8 ∨ b = 9 ∨ b = 10 ∨ b = 11 := by omega
    · exact leaf_6_0 x y
    · exact leaf_6_1 x y
    · exact leaf_6_2 x y
    · exact leaf_6_3 x y
    · exact leaf_6_4 x y
    · exact leaf_6_5 x y
    · exact leaf_6_6 x y
    · exact leaf_6_7 x y
    · exact leaf_6_8 x y
    · exact leaf_6_9 x y
    · exact leaf_6_10 x y
    · exact leaf_6_11 x y
theorem lap_ok (x y z u : Slot) : Rn (sSeq parB restB [.un, .hd, x, y, z, u]) (fun o => ∃ η', o = .nx η' ∧ LP η') := by
  haveI := s_par
  haveI := s_rest
  refine ((inferInstance : Sm (sSeq parB restB) _).h [.un, .hd, x, y, z, u] still ?_).imp fun o h => still_eq h
  show ckPar _ _ = true
  rw [par_eq, allN_iff]
  intro a ha
  rw [allN_iff]
  intro b hb
  exact leaf a b ha hb x u
theorem law_eq : g_law = sSeq headB (sSeq (sFor (iRg1 (aCons (eC (.int 7)) aNil)) (tgN 2) (sSeq parB restB)) (sRet (eC (.bool true)))) := rfl
theorem good (b : Bag) : ∃ b', g_law (Slot.un :: Slot.hd :: List.replicate 4 Slot.un) b = .ok (.rt (.bool true), b') := by
  have h : Rn (g_law [.un, .hd, .un, .un, .un, .un]) (fun o => o = .rt (.bool true)) := by
    rw [law_eq]
    refine rn_seq (s_head.h _ _ head_ok) fun o h => ?_
    obtain ⟨η, rfl, x, y, z, u, rfl⟩ := still_eq h
    refine ⟨_, rfl, rn_seq (rn_forS (ds := rgD 0 7) (fun w => rfl) (rn_forN LP _ _ (fun d η hη => ?_) ⟨x, y, z, u, rfl⟩)) fun o h => ?_⟩
    · obtain ⟨x, y, z, u, rfl⟩ := hη
      exact lap_ok (.fr d) y z u
    · obtain ⟨η', rfl, _⟩ := h
      exact ⟨η', rfl, .ret rfl⟩
  obtain ⟨o, b', e, rfl⟩ := h b
  exact ⟨b', e⟩
end Lw

set_option autoImplicit true
set_option maxHeartbeats 4000000
namespace Lw
open PySem PySem.Spec PyProof.Rows L2 LamX NdefX Cw

section
theorem all_ok {l : PySem.W.OpenLaw} {w : World} {K : PySem.W.Frag} {h : Heap} {mg : Str → Option Value} {fa : Addr} {c_word_to P_word_to : Addr} {c_stands_from P_stands_from : Addr} (X : K.In h) (G : h.Ns mainGlobals mg) (hfa : mg "law" = some (.ref fa)) (B : Bt mg) (A_is_integer : FunAt K "is_integer" s_is_integer) (A_is_within : FunAt K "is_within" s_is_within) (A_is_tuple_of : FunAt K "is_tuple_of" s_is_tuple_of) (A_are_within : FunAt K "are_within" s_are_within) (A_is_order : FunAt K "is_order" s_is_order) (A_are_throws : FunAt K "are_throws" s_are_throws) (A_check_throws : FunAt K "check_throws" s_check_throws) (A_beat_of : FunAt K "beat_of" s_beat_of) (A_landings : FunAt K "landings" s_landings) (A_raw_clash : FunAt K "raw_clash" s_raw_clash) (A_clash : FunAt K "clash" s_clash) (A_check_pattern : FunAt K "check_pattern" s_check_pattern) (A_balls : FunAt K "balls" s_balls) (A_turned : FunAt K "turned" s_turned) (A_cycles : FunAt K "cycles" s_cycles) (A_hanging_with : FunAt K "hanging_with" s_hanging_with) (A_shortest_to : FunAt K "shortest_to" s_shortest_to) (A_check_commands : FunAt K "check_commands" s_check_commands) (A_check_stand : FunAt K "check_stand" s_check_stand) (A_is_right_word : FunAt K "is_right_word" s_is_right_word) (A_check_word : FunAt K "check_word" s_check_word) (A_check_number : FunAt K "check_number" s_check_number) (A_moved_by : FunAt K "moved_by" s_moved_by) (A_raw_done : FunAt K "raw_done" s_raw_done) (A_done : FunAt K "done" s_done) (A_beside : FunAt K "beside" s_beside) (A_word_to : MakAt K "word_to" s_word_to c_word_to) (A_stands_from : MakAt K "stands_from" s_stands_from c_stands_from) (A_first_stand : FunAt K "first_stand" s_first_stand) (A_stands_many : FunAt K "stands_many" s_stands_many) (A_back_word : FunAt K "back_word" s_back_word) (A_order_of : FunAt K "order_of" s_order_of) (A_check_cups : FunAt K "check_cups" s_check_cups) (A_is_swap : FunAt K "is_swap" s_is_swap) (A_check_swaps : FunAt K "check_swaps" s_check_swaps) (A_check_line : FunAt K "check_line" s_check_line) (A_swapped : FunAt K "swapped" s_swapped) (A_raw_behind : FunAt K "raw_behind" s_raw_behind) (A_round_of : FunAt K "round_of" s_round_of) (A_all_rounds : FunAt K "all_rounds" s_all_rounds) (A_raw_fewest : FunAt K "raw_fewest" s_raw_fewest) (A_fewest_swaps : FunAt K "fewest_swaps" s_fewest_swaps) (A_left_to : FunAt K "left_to" s_left_to) (A_first_swap : FunAt K "first_swap" s_first_swap) (A_swaps_to : FunAt K "swaps_to" s_swaps_to) (A_same_end : FunAt K "same_end" s_same_end) (A_rounds : FunAt K "rounds" s_rounds) (A_check_horses : FunAt K "check_horses" s_check_horses) (A_check_both : FunAt K "check_both" s_check_both) (A_turned_by : FunAt K "turned_by" s_turned_by) (A_all_turns : FunAt K "all_turns" s_all_turns) (A_least_turn : FunAt K "least_turn" s_least_turn) (A_same_ring : FunAt K "same_ring" s_same_ring) (A_turns_to : FunAt K "turns_to" s_turns_to) (A_period : FunAt K "period" s_period) (A_ways_round : FunAt K "ways_round" s_ways_round) (A_apart : FunAt K "apart" s_apart) (A_evenly : FunAt K "evenly" s_evenly) (A__law_bag : FunAt K "_law_bag" s__law_bag) (A__law_pick : FunAt K "_law_pick" s__law_pick) (A__law_common : FunAt K "_law_common" s__law_common) (A__law_is_thrown_right : FunAt K "_law_is_thrown_right" s__law_is_thrown_right) (A__law_is_turned_right : FunAt K "_law_is_turned_right" s__law_is_turned_right) (A__law_is_laid_right : FunAt K "_law_is_laid_right" s__law_is_laid_right) (A_law : FunAt K "law" s_law) (ne_word_to_stands_from : P_word_to ≠ P_stands_from)
    (good : ∀ b : Bag, ∃ b', g_law (Slot.un :: Slot.hd :: List.replicate 4 Slot.un) b = .ok (.rt (.bool true), b')) :
    ∃ fd : FuncData, (∀ (s : Shared) (u : Value), BindsTo s fd ⟨[u], []⟩ [("script", u)]) ∧ ∀ base : Heap, K.In base → base.Ns mainGlobals mg → (∀ p ∈ [(c_word_to, P_word_to), (c_stands_from, P_stands_from)], TabB base mg p.1 p.2) → FnOk l.prog w K mg base CX0 8 fa fd ["script"] (spLawT [(P_word_to, lamQ "word_to"), (P_stands_from, lamQ "stands_from")] K) := by
  obtain ⟨f, fd, a, F⟩ := A_law
  cases hfa.symm.trans (PySem.W.mg_of X G a)
  refine ⟨fd, fun s u => ?_, fun base _ _ tbs => ?_⟩
  · obtain ⟨oc, od, kV, doc, pm, an, cdv, ct, osl, rfl, _, _⟩ := F.ex
    exact .of_eq rfl
  have TA_word_to : TabAt base mg [(P_word_to, lamQ "word_to"), (P_stands_from, lamQ "stands_from")] "word_to" c_word_to P_word_to := ⟨tbs (c_word_to, P_word_to) (by simp), by simp, fun p hp e => by
    simp only [List.mem_cons, List.not_mem_nil, or_false] at hp
    rcases hp with rfl | rfl
    · exact rfl
    · exact absurd e.symm ne_word_to_stands_from⟩
  have TA_stands_from : TabAt base mg [(P_word_to, lamQ "word_to"), (P_stands_from, lamQ "stands_from")] "stands_from" c_stands_from P_stands_from := ⟨tbs (c_stands_from, P_stands_from) (by simp), by simp, fun p hp e => by
    simp only [List.mem_cons, List.not_mem_nil, or_false] at hp
    rcases hp with rfl | rfl
    · exact absurd e ne_word_to_stands_from
    · exact rfl⟩
  have C_is_integer := cal_is_integer (P := l.prog) (w := w) (base := base) X G A_is_integer B 
  have C_is_tuple_of := cal_is_tuple_of (P := l.prog) (w := w) (base := base) X G A_is_tuple_of B 
  have C_beat_of := cal_beat_of (P := l.prog) (w := w) (base := base) X G A_beat_of B 
  have C_moved_by := cal_moved_by (P := l.prog) (w := w) (base := base) X G A_moved_by B 
  have C_first_stand := cal_first_stand (P := l.prog) (w := w) (base := base) X G A_first_stand B 
  have C_swapped := cal_swapped (P := l.prog) (w := w) (base := base) X G A_swapped B 
  have Cx_swapped := calX_swapped (P := l.prog) (w := w) (base := base) X G A_swapped B 
  have C_round_of := cal_round_of (P := l.prog) (w := w) (base := base) X G A_round_of B 
  have C_left_to := cal_left_to (P := l.prog) (w := w) (base := base) X G A_left_to B 
  have C_turned_by := cal_turned_by (P := l.prog) (w := w) (base := base) X G A_turned_by B 
  have C_ways_round := cal_ways_round (P := l.prog) (w := w) (base := base) X G A_ways_round B 
  have C_evenly := cal_evenly (P := l.prog) (w := w) (base := base) X G A_evenly B 
  have C__law_pick := cal__law_pick (P := l.prog) (w := w) (base := base) X G A__law_pick B 
  have C__law_common := cal__law_common (P := l.prog) (w := w) (base := base) X G A__law_common B 
  have C_is_within := cal_is_within (P := l.prog) (w := w) (base := base) X G A_is_within B C_is_integer
  have C_landings := cal_landings (P := l.prog) (w := w) (base := base) X G A_landings B C_beat_of
  have C_raw_done := cal_raw_done (P := l.prog) (w := w) (base := base) X G A_raw_done B C_moved_by
  have C_beside := cal_beside (P := l.prog) (w := w) (base := base) X G A_beside B C_moved_by
  have C_raw_behind := cal_raw_behind (P := l.prog) (w := w) (base := base) X G A_raw_behind B C_swapped
  have C_all_rounds := cal_all_rounds (P := l.prog) (w := w) (base := base) X G A_all_rounds B C_round_of
  have C_first_swap := cal_first_swap (P := l.prog) (w := w) (base := base) X G A_first_swap B C_round_of
  have C_all_turns := cal_all_turns (P := l.prog) (w := w) (base := base) X G A_all_turns B C_turned_by
  have C_are_within := cal_are_within (P := l.prog) (w := w) (base := base) X G A_are_within B C_is_within
  have C_are_throws := cal_are_throws (P := l.prog) (w := w) (base := base) X G A_are_throws B C_is_within
  have C_raw_clash := cal_raw_clash (P := l.prog) (w := w) (base := base) X G A_raw_clash B C_landings
  have C_hanging_with := cal_hanging_with (P := l.prog) (w := w) (base := base) X G A_hanging_with B 
  have C_check_number := cal_check_number (P := l.prog) (w := w) (base := base) X G A_check_number B C_is_within
  have C_check_cups := cal_check_cups (P := l.prog) (w := w) (base := base) X G A_check_cups B C_is_within
  have C_is_swap := cal_is_swap (P := l.prog) (w := w) (base := base) X G A_is_swap B C_is_tuple_of C_is_within
  have C_raw_fewest := cal_raw_fewest (P := l.prog) (w := w) (base := base) X G A_raw_fewest B C_all_rounds
  have C_is_order := cal_is_order (P := l.prog) (w := w) (base := base) X G A_is_order B C_are_within
  have C_check_throws := cal_check_throws (P := l.prog) (w := w) (base := base) X G A_check_throws B C_are_throws
  have C_shortest_to := cal_shortest_to (P := l.prog) (w := w) (base := base) X G A_shortest_to B 
  have C_is_right_word := cal_is_right_word (P := l.prog) (w := w) (base := base) X G A_is_right_word B C_are_within
  have C_stands_from := cal_stands_from (P := l.prog) (w := w) (base := base) (T := [(P_word_to, lamQ "word_to"), (P_stands_from, lamQ "stands_from")]) X G A_stands_from B C_hanging_with C_moved_by TA_stands_from
  have C_check_swaps := cal_check_swaps (P := l.prog) (w := w) (base := base) X G A_check_swaps B C_is_swap
  have C_check_horses := cal_check_horses (P := l.prog) (w := w) (base := base) X G A_check_horses B C_are_within
  have C_clash := cal_clash (P := l.prog) (w := w) (base := base) X G A_clash B C_check_throws C_raw_clash
  have C_check_pattern := cal_check_pattern (P := l.prog) (w := w) (base := base) X G A_check_pattern B C_check_throws C_raw_clash
  have C_turned := cal_turned (P := l.prog) (w := w) (base := base) X G A_turned B C_beat_of C_check_throws C_is_within
  have C_check_commands := cal_check_commands (P := l.prog) (w := w) (base := base) X G A_check_commands B C_is_order
  have C_check_stand := cal_check_stand (P := l.prog) (w := w) (base := base) X G A_check_stand B C_is_order
  have C_check_word := cal_check_word (P := l.prog) (w := w) (base := base) X G A_check_word B C_is_right_word
  have C_word_to := cal_word_to (P := l.prog) (w := w) (base := base) (T := [(P_word_to, lamQ "word_to"), (P_stands_from, lamQ "stands_from")]) X G A_word_to B C_beside C_shortest_to TA_word_to
  have C_check_line := cal_check_line (P := l.prog) (w := w) (base := base) X G A_check_line B C_is_order
  have C_same_end := cal_same_end (P := l.prog) (w := w) (base := base) X G A_same_end B C_check_cups C_check_swaps C_raw_behind
  have C_check_both := cal_check_both (P := l.prog) (w := w) (base := base) X G A_check_both B C_check_horses
  have C_least_turn := cal_least_turn (P := l.prog) (w := w) (base := base) X G A_least_turn B C_all_turns C_check_horses
  have C_period := cal_period (P := l.prog) (w := w) (base := base) X G A_period B C_check_horses C_turned_by
  have C_apart := cal_apart (P := l.prog) (w := w) (base := base) X G A_apart B C_check_horses C_ways_round
  have C_balls := cal_balls (P := l.prog) (w := w) (base := base) X G A_balls B C_check_pattern
  have C_cycles := cal_cycles (P := l.prog) (w := w) (base := base) X G A_cycles B C_check_pattern C_landings
  have C_done := cal_done (P := l.prog) (w := w) (base := base) X G A_done B C_check_commands C_check_stand C_check_word C_raw_done
  have C_stands_many := cal_stands_many (P := l.prog) (w := w) (base := base) (T := [(P_word_to, lamQ "word_to"), (P_stands_from, lamQ "stands_from")]) X G A_stands_many B C_check_commands C_first_stand C_stands_from
  have C_back_word := cal_back_word (P := l.prog) (w := w) (base := base) (T := [(P_word_to, lamQ "word_to"), (P_stands_from, lamQ "stands_from")]) X G A_back_word B C_check_commands C_check_number C_first_stand C_word_to
  have C_order_of := cal_order_of (P := l.prog) (w := w) (base := base) X G A_order_of B C_check_commands C_check_word C_first_stand C_raw_done
  have C_fewest_swaps := cal_fewest_swaps (P := l.prog) (w := w) (base := base) X G A_fewest_swaps B C_check_line C_raw_fewest
  have C_swaps_to := cal_swaps_to (P := l.prog) (w := w) (base := base) X G A_swaps_to B C_check_line C_first_swap C_left_to C_raw_fewest Cx_swapped
  have C_rounds := cal_rounds (P := l.prog) (w := w) (base := base) X G A_rounds B C_all_rounds C_check_line
  have C_same_ring := cal_same_ring (P := l.prog) (w := w) (base := base) X G A_same_ring B C_all_turns C_check_both
  have C_turns_to := cal_turns_to (P := l.prog) (w := w) (base := base) X G A_turns_to B C_all_turns C_check_both
  have C__law_is_thrown_right := cal__law_is_thrown_right (P := l.prog) (w := w) (base := base) X G A__law_is_thrown_right B C_balls C_clash C_cycles C_turned
  have C__law_is_turned_right := cal__law_is_turned_right (P := l.prog) (w := w) (base := base) (T := [(P_word_to, lamQ "word_to"), (P_stands_from, lamQ "stands_from")]) X G A__law_is_turned_right B C_back_word C_cycles C_done C_fewest_swaps C_order_of C_rounds C_same_end C_stands_many C_swaps_to
  have C__law_is_laid_right := cal__law_is_laid_right (P := l.prog) (w := w) (base := base) X G A__law_is_laid_right B C__law_pick C_apart C_evenly C_least_turn C_period C_same_ring C_turns_to
  obtain ⟨fB, fdB, aB, FB⟩ := A__law_bag
  exact ok_law F B C__law_common C__law_is_laid_right C__law_is_thrown_right C__law_is_turned_right C__law_pick C_cycles C_order_of C_period (ok__law_bag FB B) (PySem.W.mg_of X G aB) FB.kp (FB.binds fun _ _ _ _ _ _ us hl => match us, hl with | [_], _ => rfl) good
theorem law_end {l : PySem.W.OpenLaw} {w : World} {K : PySem.W.Frag} {h : Heap} {mg : Str → Option Value} {fa : Addr} {c_word_to P_word_to : Addr} {c_stands_from P_stands_from : Addr} (t_word_to : PySem.W.tabIn K "word_to" = some (c_word_to, P_word_to)) (g_word_to_ : h.get? P_word_to = some (PySem.W.tabObj #[])) (n_word_to_ : K.lookup P_word_to = none) (d_word_to_ : PySem.W.codeHdIn K c_word_to P_word_to = true) (t_stands_from : PySem.W.tabIn K "stands_from" = some (c_stands_from, P_stands_from)) (g_stands_from_ : h.get? P_stands_from = some (PySem.W.tabObj #[])) (n_stands_from_ : K.lookup P_stands_from = none) (d_stands_from_ : PySem.W.codeHdIn K c_stands_from P_stands_from = true) (X : K.In h) (G : h.Ns mainGlobals mg) (hfa : mg "law" = some (.ref fa)) (B : Bt mg) (A_is_integer : FunAt K "is_integer" s_is_integer) (A_is_within : FunAt K "is_within" s_is_within) (A_is_tuple_of : FunAt K "is_tuple_of" s_is_tuple_of) (A_are_within : FunAt K "are_within" s_are_within) (A_is_order : FunAt K "is_order" s_is_order) (A_are_throws : FunAt K "are_throws" s_are_throws) (A_check_throws : FunAt K "check_throws" s_check_throws) (A_beat_of : FunAt K "beat_of" s_beat_of) (A_landings : FunAt K "landings" s_landings) (A_raw_clash : FunAt K "raw_clash" s_raw_clash) (A_clash : FunAt K "clash" s_clash) (A_check_pattern : FunAt K "check_pattern" s_check_pattern) (A_balls : FunAt K "balls" s_balls) (A_turned : FunAt K "turned" s_turned) (A_cycles : FunAt K "cycles" s_cycles) (A_hanging_with : FunAt K "hanging_with" s_hanging_with) (A_shortest_to : FunAt K "shortest_to" s_shortest_to) (A_check_commands : FunAt K "check_commands" s_check_commands) (A_check_stand : FunAt K "check_stand" s_check_stand) (A_is_right_word : FunAt K "is_right_word" s_is_right_word) (A_check_word : FunAt K "check_word" s_check_word) (A_check_number : FunAt K "check_number" s_check_number) (A_moved_by : FunAt K "moved_by" s_moved_by) (A_raw_done : FunAt K "raw_done" s_raw_done) (A_done : FunAt K "done" s_done) (A_beside : FunAt K "beside" s_beside) (A_word_to : MakAt K "word_to" s_word_to c_word_to) (A_stands_from : MakAt K "stands_from" s_stands_from c_stands_from) (A_first_stand : FunAt K "first_stand" s_first_stand) (A_stands_many : FunAt K "stands_many" s_stands_many) (A_back_word : FunAt K "back_word" s_back_word) (A_order_of : FunAt K "order_of" s_order_of) (A_check_cups : FunAt K "check_cups" s_check_cups) (A_is_swap : FunAt K "is_swap" s_is_swap) (A_check_swaps : FunAt K "check_swaps" s_check_swaps) (A_check_line : FunAt K "check_line" s_check_line) (A_swapped : FunAt K "swapped" s_swapped) (A_raw_behind : FunAt K "raw_behind" s_raw_behind) (A_round_of : FunAt K "round_of" s_round_of) (A_all_rounds : FunAt K "all_rounds" s_all_rounds) (A_raw_fewest : FunAt K "raw_fewest" s_raw_fewest) (A_fewest_swaps : FunAt K "fewest_swaps" s_fewest_swaps) (A_left_to : FunAt K "left_to" s_left_to) (A_first_swap : FunAt K "first_swap" s_first_swap) (A_swaps_to : FunAt K "swaps_to" s_swaps_to) (A_same_end : FunAt K "same_end" s_same_end) (A_rounds : FunAt K "rounds" s_rounds) (A_check_horses : FunAt K "check_horses" s_check_horses) (A_check_both : FunAt K "check_both" s_check_both) (A_turned_by : FunAt K "turned_by" s_turned_by) (A_all_turns : FunAt K "all_turns" s_all_turns) (A_least_turn : FunAt K "least_turn" s_least_turn) (A_same_ring : FunAt K "same_ring" s_same_ring) (A_turns_to : FunAt K "turns_to" s_turns_to) (A_period : FunAt K "period" s_period) (A_ways_round : FunAt K "ways_round" s_ways_round) (A_apart : FunAt K "apart" s_apart) (A_evenly : FunAt K "evenly" s_evenly) (A__law_bag : FunAt K "_law_bag" s__law_bag) (A__law_pick : FunAt K "_law_pick" s__law_pick) (A__law_common : FunAt K "_law_common" s__law_common) (A__law_is_thrown_right : FunAt K "_law_is_thrown_right" s__law_is_thrown_right) (A__law_is_turned_right : FunAt K "_law_is_turned_right" s__law_is_turned_right) (A__law_is_laid_right : FunAt K "_law_is_laid_right" s__law_is_laid_right) (A_law : FunAt K "law" s_law) (ne_word_to_stands_from : P_word_to ≠ P_stands_from)
    (good : ∀ b : Bag, ∃ b', g_law (Slot.un :: Slot.hd :: List.replicate 4 Slot.un) b = .ok (.rt (.bool true), b')) : LamX.LawAtS l w K CX0 8 63 "script" mg fa h := by
  obtain ⟨fd, hb, hF⟩ := all_ok (l := l) (w := w) X G hfa B A_is_integer A_is_within A_is_tuple_of A_are_within A_is_order A_are_throws A_check_throws A_beat_of A_landings A_raw_clash A_clash A_check_pattern A_balls A_turned A_cycles A_hanging_with A_shortest_to A_check_commands A_check_stand A_is_right_word A_check_word A_check_number A_moved_by A_raw_done A_done A_beside A_word_to A_stands_from A_first_stand A_stands_many A_back_word A_order_of A_check_cups A_is_swap A_check_swaps A_check_line A_swapped A_raw_behind A_round_of A_all_rounds A_raw_fewest A_fewest_swaps A_left_to A_first_swap A_swaps_to A_same_end A_rounds A_check_horses A_check_both A_turned_by A_all_turns A_least_turn A_same_ring A_turns_to A_period A_ways_round A_apart A_evenly A__law_bag A__law_pick A__law_common A__law_is_thrown_right A__law_is_turned_right A__law_is_laid_right A_law ne_word_to_stands_from good
  refine ⟨fd, [(c_word_to, P_word_to), (c_stands_from, P_stands_from)], spLawT [(P_word_to, lamQ "word_to"), (P_stands_from, lamQ "stands_from")] K, fun p hp => ?_, fun p hp => ?_, fun p hp => ?_, hb, fun H a ns hn _ hT hS => ⟨a, ns, rfl, hS, hn, fun p hp => ?_, fun _ => rfl⟩, hF⟩
  · simp only [List.mem_cons, List.not_mem_nil, or_false] at hp
    rcases hp with rfl | rfl
    · exact g_word_to_
    · exact g_stands_from_
  · simp only [List.mem_cons, List.not_mem_nil, or_false] at hp
    rcases hp with rfl | rfl
    · exact n_word_to_
    · exact n_stands_from_
  · simp only [List.mem_cons, List.not_mem_nil, or_false] at hp
    rcases hp with rfl | rfl
    · exact PySem.W.codeHd_of_K X d_word_to_
    · exact PySem.W.codeHd_of_K X d_stands_from_
  · simp only [List.mem_cons, List.not_mem_nil, or_false] at hp
    rcases hp with rfl | rfl
    · exact LamX.TabS.nil (hT (c_word_to, P_word_to) (by simp))
    · exact LamX.TabS.nil (hT (c_stands_from, P_stands_from) (by simp))
end
end Lw
open PySem PySem.W PyProof.Rows
set_option maxHeartbeats 0 in
theorem PySem.Challenge.cw_circusweek_k82_whole_even_steps_round_a_holds : PySem.Challenge.rw_circusweek_k82_whole_even_steps_round_a.Holds := by
  w_on; o_law; k_head; (case hw => w_witness2)
  k_fill
  refine LamX.walk_ofTs (l := PySem.Challenge.rw_circusweek_k82_whole_even_steps_round_a) (n := 63) (k := 8) (x := "script") (CX := fun _ => L2.CX0) rfl (by decide) rfl ⟨rfl, by decide, by decide⟩ (fun w h Y => PySem.W.km_in_of Y) ?F (fun _ _ _ _ _ h => h)
  case F =>
    intro w mg fa h Y KX G hmg
    refine' Lw.law_end ?t_word_to ?g_word_to_ ?n_word_to_ ?d_word_to_ ?t_stands_from ?g_stands_from_ ?n_stands_from_ ?d_stands_from_ KX G hmg ?B ?A_is_integer ?A_is_within ?A_is_tuple_of ?A_are_within ?A_is_order ?A_are_throws ?A_check_throws ?A_beat_of ?A_landings ?A_raw_clash ?A_clash ?A_check_pattern ?A_balls ?A_turned ?A_cycles ?A_hanging_with ?A_shortest_to ?A_check_commands ?A_check_stand ?A_is_right_word ?A_check_word ?A_check_number ?A_moved_by ?A_raw_done ?A_done ?A_beside ?A_word_to ?A_stands_from ?A_first_stand ?A_stands_many ?A_back_word ?A_order_of ?A_check_cups ?A_is_swap ?A_check_swaps ?A_check_line ?A_swapped ?A_raw_behind ?A_round_of ?A_all_rounds ?A_raw_fewest ?A_fewest_swaps ?A_left_to ?A_first_swap ?A_swaps_to ?A_same_end ?A_rounds ?A_check_horses ?A_check_both ?A_turned_by ?A_all_turns ?A_least_turn ?A_same_ring ?A_turns_to ?A_period ?A_ways_round ?A_apart ?A_evenly ?A__law_bag ?A__law_pick ?A__law_common ?A__law_is_thrown_right ?A__law_is_turned_right ?A__law_is_laid_right ?A_law ?ne_word_to_stands_from Lw.good
    case t_word_to =>
      refine' Cw.tab_mk ?a ?l ?c ?l2 ?v
      (case a => k_is); (case l => k_is); (case c => exact rfl); (case l2 => k_is); (case v => exact rfl)
    case g_word_to_ => exact PySem.W.km_tabs_of Y _ (by simp)
    case n_word_to_ => kernel_rfl
    case d_word_to_ => kernel_rfl
    case t_stands_from =>
      refine' Cw.tab_mk ?a ?l ?c ?l2 ?v
      (case a => k_is); (case l => k_is); (case c => exact rfl); (case l2 => k_is); (case v => exact rfl)
    case g_stands_from_ => exact PySem.W.km_tabs_of Y _ (by simp)
    case n_stands_from_ => kernel_rfl
    case d_stands_from_ => kernel_rfl
    case ne_word_to_stands_from => decide
    case B => exact ⟨PySem.W.mg_none_of (n := "abs") KX G (by k_is), PySem.W.mg_none_of (n := "all") KX G (by k_is), PySem.W.mg_none_of (n := "bool") KX G (by k_is), PySem.W.mg_none_of (n := "enumerate") KX G (by k_is), PySem.W.mg_none_of (n := "int") KX G (by k_is), PySem.W.mg_none_of (n := "isinstance") KX G (by k_is), PySem.W.mg_none_of (n := "len") KX G (by k_is), PySem.W.mg_none_of (n := "list") KX G (by k_is), PySem.W.mg_none_of (n := "max") KX G (by k_is), PySem.W.mg_none_of (n := "min") KX G (by k_is), PySem.W.mg_none_of (n := "range") KX G (by k_is), PySem.W.mg_none_of (n := "sorted") KX G (by k_is), PySem.W.mg_none_of (n := "sum") KX G (by k_is), PySem.W.mg_none_of (n := "tuple") KX G (by k_is), PySem.W.mg_none_of (n := "zip") KX G (by k_is), ⟨_, PySem.W.mg_of (n := "LEAST_CUPS") KX G (by k_is)⟩, ⟨_, PySem.W.mg_of (n := "LEAST_HORSES") KX G (by k_is)⟩, ⟨_, PySem.W.mg_of (n := "MOST_BEATS") KX G (by k_is)⟩, ⟨_, PySem.W.mg_of (n := "MOST_COLOUR") KX G (by k_is)⟩, ⟨_, PySem.W.mg_of (n := "MOST_COMMANDS") KX G (by k_is)⟩, ⟨_, PySem.W.mg_of (n := "MOST_CUPS") KX G (by k_is)⟩, ⟨_, PySem.W.mg_of (n := "MOST_HORSES_commands") KX G (by k_is)⟩, ⟨_, PySem.W.mg_of (n := "MOST_HORSES_horses") KX G (by k_is)⟩, ⟨_, PySem.W.mg_of (n := "MOST_SWAPS") KX G (by k_is)⟩, ⟨_, PySem.W.mg_of (n := "MOST_THROW") KX G (by k_is)⟩, ⟨_, PySem.W.mg_of (n := "MOST_WORD") KX G (by k_is)⟩⟩
    case A_is_integer =>
      refine' Cw.funAt_mk ?a ?l ?c ?k
      (case a => k_is); (case l => k_is); (case c => k_is); (case k => k_is)
    case A_is_within =>
      refine' Cw.funAt_mk ?a ?l ?c ?k
      (case a => k_is); (case l => k_is); (case c => k_is); (case k => k_is)
    case A_is_tuple_of =>
      refine' Cw.funAt_mk ?a ?l ?c ?k
      (case a => k_is); (case l => k_is); (case c => k_is); (case k => k_is)
    case A_are_within =>
      refine' Cw.funAt_mk ?a ?l ?c ?k
      (case a => k_is); (case l => k_is); (case c => k_is); (case k => k_is)
    case A_is_order =>
      refine' Cw.funAt_mk ?a ?l ?c ?k
      (case a => k_is); (case l => k_is); (case c => k_is); (case k => k_is)
    case A_are_throws =>
      refine' Cw.funAt_mk ?a ?l ?c ?k
      (case a => k_is); (case l => k_is); (case c => k_is); (case k => k_is)
    case A_check_throws =>
      refine' Cw.funAt_mk ?a ?l ?c ?k
      (case a => k_is); (case l => k_is); (case c => k_is); (case k => k_is)
    case A_beat_of =>
      refine' Cw.funAt_mk ?a ?l ?c ?k
      (case a => k_is); (case l => k_is); (case c => k_is); (case k => k_is)
    case A_landings =>
      refine' Cw.funAt_mk ?a ?l ?c ?k
      (case a => k_is); (case l => k_is); (case c => k_is); (case k => k_is)
    case A_raw_clash =>
      refine' Cw.funAt_mk ?a ?l ?c ?k
      (case a => k_is); (case l => k_is); (case c => k_is); (case k => k_is)
    case A_clash =>
      refine' Cw.funAt_mk ?a ?l ?c ?k
      (case a => k_is); (case l => k_is); (case c => k_is); (case k => k_is)
    case A_check_pattern =>
      refine' Cw.funAt_mk ?a ?l ?c ?k
      (case a => k_is); (case l => k_is); (case c => k_is); (case k => k_is)
    case A_balls =>
      refine' Cw.funAt_mk ?a ?l ?c ?k
      (case a => k_is); (case l => k_is); (case c => k_is); (case k => k_is)
    case A_turned =>
      refine' Cw.funAt_mk ?a ?l ?c ?k
      (case a => k_is); (case l => k_is); (case c => k_is); (case k => k_is)
    case A_cycles =>
      refine' Cw.funAt_mk ?a ?l ?c ?k
      (case a => k_is); (case l => k_is); (case c => k_is); (case k => k_is)
    case A_hanging_with =>
      refine' Cw.funAt_mk ?a ?l ?c ?k
      (case a => k_is); (case l => k_is); (case c => k_is); (case k => k_is)
    case A_shortest_to =>
      refine' Cw.funAt_mk ?a ?l ?c ?k
      (case a => k_is); (case l => k_is); (case c => k_is); (case k => k_is)
    case A_check_commands =>
      refine' Cw.funAt_mk ?a ?l ?c ?k
      (case a => k_is); (case l => k_is); (case c => k_is); (case k => k_is)
    case A_check_stand =>
      refine' Cw.funAt_mk ?a ?l ?c ?k
      (case a => k_is); (case l => k_is); (case c => k_is); (case k => k_is)
    case A_is_right_word =>
      refine' Cw.funAt_mk ?a ?l ?c ?k
      (case a => k_is); (case l => k_is); (case c => k_is); (case k => k_is)
    case A_check_word =>
      refine' Cw.funAt_mk ?a ?l ?c ?k
      (case a => k_is); (case l => k_is); (case c => k_is); (case k => k_is)
    case A_check_number =>
      refine' Cw.funAt_mk ?a ?l ?c ?k
      (case a => k_is); (case l => k_is); (case c => k_is); (case k => k_is)
    case A_moved_by =>
      refine' Cw.funAt_mk ?a ?l ?c ?k
      (case a => k_is); (case l => k_is); (case c => k_is); (case k => k_is)
    case A_raw_done =>
      refine' Cw.funAt_mk ?a ?l ?c ?k
      (case a => k_is); (case l => k_is); (case c => k_is); (case k => k_is)
    case A_done =>
      refine' Cw.funAt_mk ?a ?l ?c ?k
      (case a => k_is); (case l => k_is); (case c => k_is); (case k => k_is)
    case A_beside =>
      refine' Cw.funAt_mk ?a ?l ?c ?k
      (case a => k_is); (case l => k_is); (case c => k_is); (case k => k_is)
    case A_word_to =>
      refine' Cw.makAt_mk ?a ?l ?c ?k
      (case a => k_is); (case l => k_is); (case c => k_is); (case k => k_is)
    case A_stands_from =>
      refine' Cw.makAt_mk ?a ?l ?c ?k
      (case a => k_is); (case l => k_is); (case c => k_is); (case k => k_is)
    case A_first_stand =>
      refine' Cw.funAt_mk ?a ?l ?c ?k
      (case a => k_is); (case l => k_is); (case c => k_is); (case k => k_is)
    case A_stands_many =>
      refine' Cw.funAt_mk ?a ?l ?c ?k
      (case a => k_is); (case l => k_is); (case c => k_is); (case k => k_is)
    case A_back_word =>
      refine' Cw.funAt_mk ?a ?l ?c ?k
      (case a => k_is); (case l => k_is); (case c => k_is); (case k => k_is)
    case A_order_of =>
      refine' Cw.funAt_mk ?a ?l ?c ?k
      (case a => k_is); (case l => k_is); (case c => k_is); (case k => k_is)
    case A_check_cups =>
      refine' Cw.funAt_mk ?a ?l ?c ?k
      (case a => k_is); (case l => k_is); (case c => k_is); (case k => k_is)
    case A_is_swap =>
      refine' Cw.funAt_mk ?a ?l ?c ?k
      (case a => k_is); (case l => k_is); (case c => k_is); (case k => k_is)
    case A_check_swaps =>
      refine' Cw.funAt_mk ?a ?l ?c ?k
      (case a => k_is); (case l => k_is); (case c => k_is); (case k => k_is)
    case A_check_line =>
      refine' Cw.funAt_mk ?a ?l ?c ?k
      (case a => k_is); (case l => k_is); (case c => k_is); (case k => k_is)
    case A_swapped =>
      refine' Cw.funAt_mk ?a ?l ?c ?k
      (case a => k_is); (case l => k_is); (case c => k_is); (case k => k_is)
    case A_raw_behind =>
      refine' Cw.funAt_mk ?a ?l ?c ?k
      (case a => k_is); (case l => k_is); (case c => k_is); (case k => k_is)
    case A_round_of =>
      refine' Cw.funAt_mk ?a ?l ?c ?k
      (case a => k_is); (case l => k_is); (case c => k_is); (case k => k_is)
    case A_all_rounds =>
      refine' Cw.funAt_mk ?a ?l ?c ?k
      (case a => k_is); (case l => k_is); (case c => k_is); (case k => k_is)
    case A_raw_fewest =>
      refine' Cw.funAt_mk ?a ?l ?c ?k
      (case a => k_is); (case l => k_is); (case c => k_is); (case k => k_is)
    case A_fewest_swaps =>
      refine' Cw.funAt_mk ?a ?l ?c ?k
      (case a => k_is); (case l => k_is); (case c => k_is); (case k => k_is)
    case A_left_to =>
      refine' Cw.funAt_mk ?a ?l ?c ?k
      (case a => k_is); (case l => k_is); (case c => k_is); (case k => k_is)
    case A_first_swap =>
      refine' Cw.funAt_mk ?a ?l ?c ?k
      (case a => k_is); (case l => k_is); (case c => k_is); (case k => k_is)
    case A_swaps_to =>
      refine' Cw.funAt_mk ?a ?l ?c ?k
      (case a => k_is); (case l => k_is); (case c => k_is); (case k => k_is)
    case A_same_end =>
      refine' Cw.funAt_mk ?a ?l ?c ?k
      (case a => k_is); (case l => k_is); (case c => k_is); (case k => k_is)
    case A_rounds =>
      refine' Cw.funAt_mk ?a ?l ?c ?k
      (case a => k_is); (case l => k_is); (case c => k_is); (case k => k_is)
    case A_check_horses =>
      refine' Cw.funAt_mk ?a ?l ?c ?k
      (case a => k_is); (case l => k_is); (case c => k_is); (case k => k_is)
    case A_check_both =>
      refine' Cw.funAt_mk ?a ?l ?c ?k
      (case a => k_is); (case l => k_is); (case c => k_is); (case k => k_is)
    case A_turned_by =>
      refine' Cw.funAt_mk ?a ?l ?c ?k
      (case a => k_is); (case l => k_is); (case c => k_is); (case k => k_is)
    case A_all_turns =>
      refine' Cw.funAt_mk ?a ?l ?c ?k
      (case a => k_is); (case l => k_is); (case c => k_is); (case k => k_is)
    case A_least_turn =>
      refine' Cw.funAt_mk ?a ?l ?c ?k
      (case a => k_is); (case l => k_is); (case c => k_is); (case k => k_is)
    case A_same_ring =>
      refine' Cw.funAt_mk ?a ?l ?c ?k
      (case a => k_is); (case l => k_is); (case c => k_is); (case k => k_is)
    case A_turns_to =>
      refine' Cw.funAt_mk ?a ?l ?c ?k
      (case a => k_is); (case l => k_is); (case c => k_is); (case k => k_is)
    case A_period =>
      refine' Cw.funAt_mk ?a ?l ?c ?k
      (case a => k_is); (case l => k_is); (case c => k_is); (case k => k_is)
    case A_ways_round =>
      refine' Cw.funAt_mk ?a ?l ?c ?k
      (case a => k_is); (case l => k_is); (case c => k_is); (case k => k_is)
    case A_apart =>
      refine' Cw.funAt_mk ?a ?l ?c ?k
      (case a => k_is); (case l => k_is); (case c => k_is); (case k => k_is)
    case A_evenly =>
      refine' Cw.funAt_mk ?a ?l ?c ?k
      (case a => k_is); (case l => k_is); (case c => k_is); (case k => k_is)
    case A__law_bag =>
      refine' Cw.funAt_mk ?a ?l ?c ?k
      (case a => k_is); (case l => k_is); (case c => k_is); (case k => k_is)
    case A__law_pick =>
      refine' Cw.funAt_mk ?a ?l ?c ?k
      (case a => k_is); (case l => k_is); (case c => k_is); (case k => k_is)
    case A__law_common =>
      refine' Cw.funAt_mk ?a ?l ?c ?k
      (case a => k_is); (case l => k_is); (case c => k_is); (case k => k_is)
    case A__law_is_thrown_right =>
      refine' Cw.funAt_mk ?a ?l ?c ?k
      (case a => k_is); (case l => k_is); (case c => k_is); (case k => k_is)
    case A__law_is_turned_right =>
      refine' Cw.funAt_mk ?a ?l ?c ?k
      (case a => k_is); (case l => k_is); (case c => k_is); (case k => k_is)
    case A__law_is_laid_right =>
      refine' Cw.funAt_mk ?a ?l ?c ?k
      (case a => k_is); (case l => k_is); (case c => k_is); (case k => k_is)
    case A_law =>
      refine' Cw.funAt_mk ?a ?l ?c ?k
      (case a => k_is); (case l => k_is); (case c => k_is); (case k => k_is)
namespace Lw
section
end
end Lw

