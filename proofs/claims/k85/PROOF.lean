import PyProof.Rows.All
import PySem.Challenge.RW_circusweek_k85_whole_lamps_laid_evenly_a
import HandS.ForMost
import HandS.TupAny
import HandS.TupMul
import HandS.Zip
import HandS.Conv
import HandS.DictTup
import HandS.Flow
import KE.DataEq
import KE.DataCmp
import KE.DataMinMax
import KE.SortData
import PyProof.SeqIndex
import HandS.Style
import HandS.Deep
import HandS.IsInst
import HandS.TupLen
import KE.KSortedM
import KE.GoesMore
import PyProof.EnumMake
set_option Elab.async false
set_option linter.all false
set_option maxRecDepth 100000
namespace Cw
open PySem PySem.Spec PyProof.Rows L2

abbrev D := PyData

/-! ### what a value stands for, in a heap of frozen objects -/
def keyD : Key → D
  | .inl i => .int i
  | .inr x => .str x
mutual
inductive Dn (F : Hp) : V → D → Prop
  | non : Dn F .non .none
  | bl (b : Bool) : Dn F (.bl b) (.bool b)
  | int (i : Int) : Dn F (.int i) (.int i)
  | str (x : Str) : Dn F (.str x) (.str x)
  | lst {a : Addr} {vs : List V} {ds : List D} : F a = some (.lst vs) → DnL F vs ds → Dn F (.ref a) (.list ds)
  | tup {a : Addr} {vs : List V} {ds : List D} : F a = some (.tup vs) → DnL F vs ds → Dn F (.ref a) (.tuple ds)
  | dK {a : Addr} {kvs : List (Key × V)} {ds : List (D × D)} : F a = some (.dK kvs) → DnK F kvs ds → Dn F (.ref a) (.dict ds)
  | dT {a : Addr} {kvs : List (List Key × V)} {ds : List (D × D)} : F a = some (.dT kvs) → DnT F kvs ds → Dn F (.ref a) (.dict ((.none, .none) :: ds))
inductive DnL (F : Hp) : List V → List D → Prop
  | nil : DnL F [] []
  | cons {v : V} {vs : List V} {d : D} {ds : List D} : Dn F v d → DnL F vs ds → DnL F (v :: vs) (d :: ds)
inductive DnK (F : Hp) : List (Key × V) → List (D × D) → Prop
  | nil : DnK F [] []
  | cons {k : Key} {v : V} {r : List (Key × V)} {d : D} {ds : List (D × D)} : Dn F v d → DnK F r ds → DnK F ((k, v) :: r) ((keyD k, d) :: ds)
inductive DnT (F : Hp) : List (List Key × V) → List (D × D) → Prop
  | nil : DnT F [] []
  | cons {k : List Key} {v : V} {r : List (List Key × V)} {d : D} {ds : List (D × D)} : Dn F v d → DnT F r ds → DnT F ((k, v) :: r) ((.tuple (k.map keyD), d) :: ds)
end

def Sub (F F' : Hp) : Prop := ∀ a o, F a = some o → F' a = some o
theorem Sub.refl (F : Hp) : Sub F F := fun _ _ h => h
theorem Sub.trans {F G H : Hp} (a : Sub F G) (b : Sub G H) : Sub F H := fun x o h => b x o (a x o h)

mutual
theorem Dn.mono {F F' : Hp} (s : Sub F F') : ∀ {v : V} {d : D}, Dn F v d → Dn F' v d
  | _, _, .non => .non
  | _, _, .bl b => .bl b
  | _, _, .int i => .int i
  | _, _, .str x => .str x
  | _, _, .lst h t => .lst (s _ _ h) (DnL.mono s t)
  | _, _, .tup h t => .tup (s _ _ h) (DnL.mono s t)
  | _, _, .dK h t => .dK (s _ _ h) (DnK.mono s t)
  | _, _, .dT h t => .dT (s _ _ h) (DnT.mono s t)
theorem DnL.mono {F F' : Hp} (s : Sub F F') : ∀ {v : List V} {d : List D}, DnL F v d → DnL F' v d
  | _, _, .nil => .nil
  | _, _, .cons h t => .cons (Dn.mono s h) (DnL.mono s t)
theorem DnK.mono {F F' : Hp} (s : Sub F F') : ∀ {v : List (Key × V)} {d : List (D × D)}, DnK F v d → DnK F' v d
  | _, _, .nil => .nil
  | _, _, .cons h t => .cons (Dn.mono s h) (DnK.mono s t)
theorem DnT.mono {F F' : Hp} (s : Sub F F') : ∀ {v : List (List Key × V)} {d : List (D × D)}, DnT F v d → DnT F' v d
  | _, _, .nil => .nil
  | _, _, .cons h t => .cons (Dn.mono s h) (DnT.mono s t)
end

theorem DnL.len {F : Hp} : ∀ {vs : List V} {ds : List D}, DnL F vs ds → vs.length = ds.length
  | _, _, .nil => rfl
  | _, _, .cons _ t => by simp [DnL.len t]
theorem DnL.get {F : Hp} : ∀ {vs : List V} {ds : List D} (i : Nat) {d : D}, DnL F vs ds → ds[i]? = some d → ∃ v, vs[i]? = some v ∧ Dn F v d
  | _, _, _, _, .nil, h => by simp at h
  | _, _, 0, _, .cons h _, e => by simp at e; subst e; exact ⟨_, rfl, h⟩
  | _, _, i + 1, _, .cons _ t, e => by
    obtain ⟨v, h1, h2⟩ := DnL.get i t (by simpa using e)
    exact ⟨v, by simpa using h1, h2⟩
theorem DnL.getV {F : Hp} : ∀ {vs : List V} {ds : List D} (i : Nat) {v : V}, DnL F vs ds → vs[i]? = some v → ∃ d, ds[i]? = some d ∧ Dn F v d
  | _, _, _, _, .nil, h => by simp at h
  | _, _, 0, _, .cons h _, e => by simp at e; subst e; exact ⟨_, rfl, h⟩
  | _, _, i + 1, _, .cons _ t, e => by
    obtain ⟨v, h1, h2⟩ := DnL.getV i t (by simpa using e)
    exact ⟨v, by simpa using h1, h2⟩
theorem DnL.append {F : Hp} : ∀ {vs us : List V} {ds es : List D}, DnL F vs ds → DnL F us es → DnL F (vs ++ us) (ds ++ es)
  | _, _, _, _, .nil, s => s
  | _, _, _, _, .cons h t, s => .cons h (DnL.append t s)
theorem DnL.one {F : Hp} {v : V} {d : D} (h : Dn F v d) : DnL F [v] [d] := .cons h .nil
theorem DnL.take {F : Hp} : ∀ {vs : List V} {ds : List D} (n : Nat), DnL F vs ds → DnL F (vs.take n) (ds.take n)
  | _, _, 0, _ => by simp; exact .nil
  | _, _, _ + 1, .nil => .nil
  | _, _, n + 1, .cons h t => .cons h (DnL.take n t)
theorem DnL.drop {F : Hp} : ∀ {vs : List V} {ds : List D} (n : Nat), DnL F vs ds → DnL F (vs.drop n) (ds.drop n)
  | _, _, 0, h => h
  | _, _, _ + 1, .nil => .nil
  | _, _, n + 1, .cons _ t => DnL.drop n t
theorem DnL.set {F : Hp} {v : V} {d : D} (h : Dn F v d) : ∀ {vs : List V} {ds : List D} (i : Nat), DnL F vs ds → DnL F (vs.set i v) (ds.set i d)
  | _, _, _, .nil => .nil
  | _, _, 0, .cons _ t => .cons h t
  | _, _, i + 1, .cons q t => .cons q (DnL.set h i t)
theorem DnL.eraseIdx {F : Hp} : ∀ {vs : List V} {ds : List D} (i : Nat), DnL F vs ds → DnL F (vs.eraseIdx i) (ds.eraseIdx i)
  | _, _, _, .nil => .nil
  | _, _, 0, .cons _ t => t
  | _, _, i + 1, .cons q t => .cons q (DnL.eraseIdx i t)
theorem DnL.dropLast {F : Hp} : ∀ {vs : List V} {ds : List D}, DnL F vs ds → DnL F vs.dropLast ds.dropLast
  | _, _, .nil => .nil
  | _, _, .cons _ .nil => .nil
  | _, _, .cons h (.cons g t) => .cons h (DnL.dropLast (.cons g t))
theorem DnL.rep {F : Hp} {vs : List V} {ds : List D} (h : DnL F vs ds) : ∀ k : Nat, DnL F (List.replicate k vs).flatten (List.replicate k ds).flatten
  | 0 => .nil
  | k + 1 => by simpa [List.replicate_succ] using h.append (DnL.rep h k)
theorem DnL.nil_iff {F : Hp} {vs : List V} {ds : List D} (h : DnL F vs ds) : vs = [] ↔ ds = [] := by
  cases h <;> simp

/-! ### outcomes -/
inductive Res (α : Type) where
  | ok (a : α)
  | exc (c : String)
  | stk
def Res.bind {α β : Type} (r : Res α) (f : α → Res β) : Res β := match r with
  | .ok a => f a
  | .exc c => .exc c
  | .stk => .stk
/-- with the state of what may be drawn -/
abbrev M (W α : Type) := W → Res (α × W)
def bindM {W α β : Type} (r : Res (α × W)) (f : α → W → Res (β × W)) : Res (β × W) := match r with
  | .ok (a, w) => f a w
  | .exc c => .exc c
  | .stk => .stk
def liftM {W α : Type} (r : Res α) (w : W) : Res (α × W) := match r with
  | .ok a => .ok (a, w)
  | .exc c => .exc c
  | .stk => .stk

/-- a locked thing, a tuple stay as they are -/
def IsFrz : HO → Prop
  | .frz _ _ => True
  | .tup _ => True
  | _ => False
/-! ### a thing beside the data: the objects at foot, changed by few defs alone -/
structure Rsc (W : Type) where
  foot : Addr → Prop
  self : V
  ok : W → Hp → Prop
  stable : ∀ {w : W} {H H' : Hp}, ok w H → (∀ b, foot b → H' b = H b) → ok w H'
  there : ∀ {w : W} {H : Hp} {b : Addr}, ok w H → foot b → ∃ o, H b = some o ∧ ¬ IsFrz o
def R0 : Rsc Unit where
  foot _ := False
  self := .non
  ok _ _ := True
  stable _ _ := trivial
  there _ h := h.elim

/-- a dict may be locked while it is walked -/
def IsDic : HO → Prop
  | .dK _ => True
  | .dT _ => True
  | _ => False
def SubR (F H : Hp) : Prop := ∀ a o, F a = some o → H a = some o ∨ (IsDic o ∧ ∃ od, H a = some (.frz od o))
theorem SubR.some {F H : Hp} (s : SubR F H) {a : Addr} {o : HO} (h : F a = some o) : ∃ u, H a = some u := by
  rcases s a o h with h | ⟨_, _, h⟩ <;> exact ⟨_, h⟩
structure Wok {W : Type} (R : Rsc W) (F H : Hp) (w : W) : Prop where
  sub : SubR F H
  nf : ∀ {a}, R.foot a → F a = none
  res : R.ok w H
structure Ext {W : Type} (R : Rsc W) (F H F' H' : Hp) : Prop where
  mono : Sub F F'
  keep : ∀ {a o}, ¬ R.foot a → F a = none ∨ IsFrz o → H a = some o → H' a = some o
  fresh : ∀ {a o}, ¬ R.foot a → ¬ IsFrz o → H a = some o → F a = none → F' a = none
section
variable {W : Type} {R : Rsc W} {F H F1 H1 F2 H2 : Hp} {w w1 : W}
theorem Ext.refl : Ext R F H F H := ⟨Sub.refl F, fun _ _ h => h, fun _ _ _ h => h⟩
theorem Ext.trans (a : Ext R F H F1 H1) (b : Ext R F1 H1 F2 H2) : Ext R F H F2 H2 :=
  ⟨a.mono.trans b.mono, fun {c o} n q h => b.keep n (by
      by_cases z : IsFrz o
      · exact .inr z
      · exact q.imp (fun q => a.fresh n z h q) (fun q => q)) (a.keep n q h), fun n z h h' => b.fresh n z (a.keep n (.inl h') h) (a.fresh n z h h')⟩
/-- a new frozen object -/
theorem Ext.new {p : Addr} {o : HO} (k : Wok R F H w) (n : H p = none) : Ext R F H (upd F p o) (upd H p o) := by
  have nF : F p = none := by
    cases q : F p with
    | none => rfl
    | some u => obtain ⟨z, e⟩ := k.sub.some q; rw [e] at n; cases n
  refine ⟨fun a u h => ?_, fun _ _ h => ?_, fun {a u} _ _ h h' => ?_⟩
  · rw [upd_ne (ne_of_none h nF)]; exact h
  · rw [upd_ne (ne_of_none h n)]; exact h
  · rw [upd_ne (ne_of_none h n)]; exact h'
theorem Wok.new {p : Addr} {o : HO} (k : Wok R F H w) (n : H p = none) : Wok R (upd F p o) (upd H p o) w := by
  have np : ∀ a, R.foot a → a ≠ p := fun a fa e => by
    obtain ⟨u, hu, _⟩ := k.res |> fun r => R.there r fa
    rw [e, n] at hu; cases hu
  refine ⟨fun a u h => ?_, fun {a} fa => ?_, R.stable k.res fun b fb => ?_⟩
  · by_cases e : a = p
    · subst e; rw [upd_same] at h ⊢; exact .inl h
    · rw [upd_ne e] at h ⊢; exact k.sub _ _ h
  · rw [upd_ne (np a fa)]; exact k.nf fa
  · rw [upd_ne (np b fb)]
/-- a new object that is not frozen -/
theorem Ext.newO {p : Addr} {o : HO} (n : H p = none) : Ext R F H F (upd H p o) :=
  ⟨Sub.refl F, fun _ _ h => by rw [upd_ne (ne_of_none h n)]; exact h, fun _ _ _ h => h⟩
theorem Wok.newO {p : Addr} {o : HO} (k : Wok R F H w) (n : H p = none) : Wok R F (upd H p o) w := by
  have np : ∀ a, R.foot a → a ≠ p := fun a fa e => by
    obtain ⟨u, hu, _⟩ := k.res |> fun r => R.there r fa
    rw [e, n] at hu; cases hu
  refine ⟨fun a u h => ?_, fun fa => k.nf fa, R.stable k.res fun b fb => ?_⟩
  · obtain ⟨z, e⟩ := k.sub.some h
    rw [upd_ne (ne_of_none e n)]; exact k.sub _ _ h
  · rw [upd_ne (np b fb)]
theorem Wok.notfoot {p : Addr} (k : Wok R F H w) (n : H p = none) : ¬ R.foot p := fun f => by
  obtain ⟨o, e, _⟩ := R.there k.res f
  rw [n] at e; cases e
theorem Wok.Fnone {p : Addr} (k : Wok R F H w) (n : H p = none) : F p = none := by
  cases q : F p with
  | none => rfl
  | some u => obtain ⟨z, e⟩ := k.sub.some q; rw [e] at n; cases n
/-- an object that is not frozen becomes frozen -/
theorem Ext.freeze {p : Addr} {o : HO} (e : Ext R F H F1 H1) (hp : H1 p = some o) (hn : H p = none) (hF : F1 p = none) : Ext R F H (upd F1 p o) H1 := by
  refine ⟨fun a u h => ?_, fun n q h => e.keep n q h, fun {a u} n z h h' => ?_⟩
  · have h1 := e.mono _ _ h
    rw [upd_ne (ne_of_none h1 hF)]; exact h1
  · rw [upd_ne (ne_of_none h hn)]; exact e.fresh n z h h'
theorem Wok.freeze {p : Addr} {o : HO} (k : Wok R F H w) (hp : H p = some o) (nf : ¬ R.foot p) : Wok R (upd F p o) H w := by
  refine ⟨fun a u h => ?_, fun {a} fa => ?_, k.res⟩
  · by_cases e : a = p
    · subst e; rw [upd_same] at h; rw [← h]; exact .inl hp
    · rw [upd_ne e] at h; exact k.sub _ _ h
  · rw [upd_ne (show a ≠ p from fun e => nf (by rw [← e]; exact fa))]; exact k.nf fa
/-- of the callee, who knows of no such thing -/
theorem Ext.of0 (e : Ext R0 F H F1 H1) : Ext R F H F1 H1 := ⟨e.mono, fun _ q h => e.keep (fun x => x) q h, fun _ z h h' => e.fresh (fun x => x) z h h'⟩
theorem Wok.to0 (k : Wok R F H w) : Wok R0 F H () := ⟨k.sub, fun h => h.elim, trivial⟩
theorem Wok.of0 (k : Wok R F H w) (e : Ext R0 F H F1 H1) (k1 : Wok R0 F1 H1 ()) : Wok R F1 H1 w := by
  refine ⟨k1.sub, fun {a} fa => ?_, R.stable k.res fun b fb => ?_⟩
  · obtain ⟨o, h, no⟩ := R.there k.res fa
    exact e.fresh (fun x => x) no h (k.nf fa)
  · obtain ⟨o, h, _⟩ := R.there k.res fb
    rw [h]; exact e.keep (fun x => x) (.inl (k.nf fb)) h
end

/-- P holds behind r, wherever the heap has gone -/
def Post {W α : Type} (R : Rsc W) (F H : Hp) (X : String → Prop) (r : Res (α × W)) (P : α → Hp → Hp → Prop) : Prop := match r with
  | .ok (a, w') => ∀ F' H', Ext R F H F' H' → Wok R F' H' w' → P a F' H'
  | .exc c => X c
  | .stk => False
theorem Post.bind {W α β : Type} {R : Rsc W} {F H : Hp} {X : String → Prop} {r : Res (α × W)} {g : α → W → Res (β × W)} {P : β → Hp → Hp → Prop} {P' : α → Hp → Hp → Prop}
    (h : Post R F H X (bindM r g) P) (k : ∀ a w1 F1 H1, Ext R F H F1 H1 → Wok R F1 H1 w1 → Post R F1 H1 X (g a w1) P → P' a F1 H1) : Post R F H X r P' := by
  match r, h with
  | .ok (a, w1), h =>
    intro F1 H1 e o
    refine k a w1 F1 H1 e o ?_
    have h' : Post R F H X (g a w1) P := h
    revert h'
    generalize g a w1 = z
    match z with
    | .ok (b, w2) => exact fun h' F2 H2 e2 o2 => h' F2 H2 (e.trans e2) o2
    | .exc c => exact fun h' => h'
    | .stk => exact fun h' => h'
  | .exc c, h => exact h
  | .stk, h => exact h
theorem Post.imp {W α : Type} {R : Rsc W} {F H : Hp} {X : String → Prop} {r : Res (α × W)} {P P' : α → Hp → Hp → Prop} (h : Post R F H X r P)
    (k : ∀ a w' F' H', r = .ok (a, w') → Ext R F H F' H' → Wok R F' H' w' → P a F' H' → P' a F' H') : Post R F H X r P' := by
  match r, h with
  | .ok (a, w1), h => exact fun F' H' e o => k a w1 F' H' rfl e o (h F' H' e o)
  | .exc c, h => exact h
  | .stk, h => exact h
/-- nothing was drawn -/
theorem Post.lift {W α : Type} {R : Rsc W} {F H : Hp} {w : W} {X : String → Prop} {a : α} {P : α → Hp → Hp → Prop} (h : Post R F H X (liftM (.ok a) w) P) : ∀ F' H', Ext R F H F' H' → Wok R F' H' w → P a F' H' := h

/-! ### the slots of a def -/
inductive Slot where
  | un
  | fr (d : D)
  | ow (d : D)
  | hd
abbrev EnvD := List Slot
structure Bs where
  F : Hp
  H : Hp
  X : String → Prop

/-- an object of one's own: it may be changed -/
inductive OwO (F : Hp) : D → HO → Prop
  | lst {vs : List V} {ds : List D} : DnL F vs ds → OwO F (.list ds) (.lst vs)
  | dK {kvs : List (Key × V)} {ds : List (D × D)} : DnK F kvs ds → OwO F (.dict ds) (.dK kvs)
  | dT {kvs : List (List Key × V)} {ds : List (D × D)} : DnT F kvs ds → OwO F (.dict ((.none, .none) :: ds)) (.dT kvs)
theorem OwO.mono {F F' : Hp} (s : Sub F F') {d : D} {o : HO} : OwO F d o → OwO F' d o
  | .lst h => .lst (h.mono s)
  | .dK h => .dK (h.mono s)
  | .dT h => .dT (h.mono s)
theorem OwO.nofix {F : Hp} {d : D} {o : HO} (h : OwO F d o) : ¬ IsFrz o := by cases h <;> exact fun z => z
theorem OwO.dn {F : Hp} {d : D} {o : HO} {p : Addr} (h : OwO F d o) (s : Sub F F') (e : F' p = some o) : Dn F' (.ref p) d := by
  cases h with
  | lst h => exact .lst e (h.mono s)
  | dK h => exact .dK e (h.mono s)
  | dT h => exact .dT e (h.mono s)

def isOw : Option Slot → Bool
  | some (.ow _) => true
  | _ => false
structure StOk {W : Type} (R : Rsc W) (B : Bs) (η : EnvD) (w : W) (σ : L2.St) (F H : Hp) : Prop where
  wok : Wok R F H w
  ext : Ext R B.F B.H F H
  len : η.length = σ.length
  fr : ∀ {i : Nat} {d : D}, η[i]? = some (Slot.fr d) → ∃ v, σ[i]? = some (some v) ∧ Dn F v d
  ow : ∀ {i : Nat} {d : D}, η[i]? = some (Slot.ow d) → ∃ p o, σ[i]? = some (some (V.ref p)) ∧ H p = some o ∧ OwO F d o ∧ F p = none ∧ B.H p = none ∧ ¬ R.foot p
  hd : ∀ {i : Nat}, η[i]? = some Slot.hd → σ[i]? = some (some R.self)
  inj : ∀ {i j : Nat} {d e : D} {p : Addr}, η[i]? = some (Slot.ow d) → η[j]? = some (Slot.ow e) → σ[i]? = some (some (V.ref p)) → σ[j]? = some (some (V.ref p)) → i = j
section
variable {W : Type} {R : Rsc W} {B : Bs} {η : EnvD} {w w1 : W} {σ : L2.St} {F H F1 H1 : Hp}
theorem StOk.go (S : StOk R B η w σ F H) (e : Ext R F H F1 H1) (k : Wok R F1 H1 w1) : StOk R B η w1 σ F1 H1 where
  wok := k
  ext := S.ext.trans e
  len := S.len
  fr := fun h => by
    obtain ⟨v, h1, h2⟩ := S.fr h
    exact ⟨v, h1, h2.mono e.mono⟩
  ow := fun h => by
    obtain ⟨p, o, h1, h2, h3, h4, h5, h6⟩ := S.ow h
    exact ⟨p, o, h1, e.keep h6 (.inl h4) h2, h3.mono e.mono, e.fresh h6 h3.nofix h2 h4, h5, h6⟩
  hd := S.hd
  inj := S.inj
theorem get_set {α : Type} {l : List α} {i j : Nat} {a b : α} (h : (l.set i a)[j]? = some b) : (i = j ∧ a = b ∧ i < l.length) ∨ (i ≠ j ∧ l[j]? = some b) := by
  by_cases e : i = j
  · subst e
    by_cases hl : i < l.length
    · rw [List.getElem?_set_self hl] at h
      exact .inl ⟨rfl, Option.some.inj h, hl⟩
    · rw [List.getElem?_eq_none (by simpa using hl)] at h; cases h
  · rw [List.getElem?_set_ne e] at h
    exact .inr ⟨e, h⟩
/-- a slot that holds a frozen value -/
theorem StOk.setFr (S : StOk R B η w σ F H) (i : Nat) {v : V} {d : D} (h : Dn F v d) : StOk R B (η.set i (Slot.fr d)) w (σ.set i (some v)) F H where
  wok := S.wok
  ext := S.ext
  len := by simp [S.len]
  fr := fun {j d'} q => by
    rcases get_set q with ⟨rfl, e, hl⟩ | ⟨e, q⟩
    · cases e
      exact ⟨v, List.getElem?_set_self (by rw [← S.len]; exact hl), h⟩
    · rw [List.getElem?_set_ne e]; exact S.fr q
  ow := fun {j d'} q => by
    rcases get_set q with ⟨rfl, e, hl⟩ | ⟨e, q⟩
    · cases e
    · rw [List.getElem?_set_ne e]; exact S.ow q
  hd := fun {j} q => by
    rcases get_set q with ⟨rfl, e, hl⟩ | ⟨e, q⟩
    · cases e
    · rw [List.getElem?_set_ne e]; exact S.hd q
  inj := fun {j k d' e' p} q q' r r' => by
    rcases get_set q with ⟨rfl, e, hl⟩ | ⟨e, q⟩
    · cases e
    rcases get_set q' with ⟨rfl, e1, hl⟩ | ⟨e1, q'⟩
    · cases e1
    rw [List.getElem?_set_ne e] at r
    rw [List.getElem?_set_ne e1] at r'
    exact S.inj q q' r r'
/-- a slot that holds an object of one's own -/
theorem StOk.setOw (S : StOk R B η w σ F H) (i : Nat) {p : Addr} {o : HO} {d : D} (h : H p = some o) (ho : OwO F d o) (hF : F p = none) (hB : B.H p = none) (hf : ¬ R.foot p)
    (hd : ∀ {j : Nat} {e : D}, η[j]? = some (Slot.ow e) → σ[j]? ≠ some (some (V.ref p))) : StOk R B (η.set i (Slot.ow d)) w (σ.set i (some (V.ref p))) F H where
  wok := S.wok
  ext := S.ext
  len := by simp [S.len]
  fr := fun {j d'} q => by
    rcases get_set q with ⟨rfl, e, hl⟩ | ⟨e, q⟩
    · cases e
    · rw [List.getElem?_set_ne e]; exact S.fr q
  ow := fun {j d'} q => by
    rcases get_set q with ⟨rfl, e, hl⟩ | ⟨e, q⟩
    · cases e
      exact ⟨p, o, List.getElem?_set_self (by rw [← S.len]; exact hl), h, ho, hF, hB, hf⟩
    · rw [List.getElem?_set_ne e]; exact S.ow q
  hd := fun {j} q => by
    rcases get_set q with ⟨rfl, e, hl⟩ | ⟨e, q⟩
    · cases e
    · rw [List.getElem?_set_ne e]; exact S.hd q
  inj := fun {j k d' e' p'} q q' r r' => by
    rcases get_set q with ⟨rfl, e, hl⟩ | ⟨e, q⟩
    · rcases get_set q' with ⟨rfl, e1, hl1⟩ | ⟨e1, q'⟩
      · rfl
      · rw [List.getElem?_set_self (by rw [← S.len]; exact hl)] at r
        rw [List.getElem?_set_ne e1] at r'
        cases r
        exact absurd r' (hd q')
    · rcases get_set q' with ⟨rfl, e1, hl1⟩ | ⟨e1, q'⟩
      · rw [List.getElem?_set_self (by rw [← S.len]; exact hl1)] at r'
        rw [List.getElem?_set_ne e] at r
        cases r'
        exact absurd r (hd q)
      · rw [List.getElem?_set_ne e] at r
        rw [List.getElem?_set_ne e1] at r'
        exact S.inj q q' r r'
/-- the object of a slot is changed -/
theorem StOk.write (S : StOk R B η w σ F H) {i : Nat} {p : Addr} {o' : HO} {d d' : D} (hi : η[i]? = some (Slot.ow d)) (hs : σ[i]? = some (some (V.ref p))) (ho : OwO F d' o') :
    StOk R B (η.set i (Slot.ow d')) w σ F (upd H p o') := by
  obtain ⟨p', o1, h1, h2, h3, h4, h5, h6⟩ := S.ow hi
  have ep : p' = p := by rw [hs] at h1; cases h1; rfl
  subst ep
  have hk : ∀ a, F a ≠ none → a ≠ p' := fun a n e => by subst e; exact n h4
  refine ⟨⟨fun a u h => ?_, S.wok.nf, R.stable S.wok.res fun b fb => upd_ne fun e => h6 (e ▸ fb)⟩, ⟨S.ext.mono, fun {a u} n q h => ?_, S.ext.fresh⟩, by simp [S.len], fun {j e} q => ?_, fun {j e} q => ?_, fun {j} q => ?_, fun {j k e e' p2} q q' r r' => ?_⟩
  · rw [upd_ne (hk a (by rw [h]; simp))]; exact S.wok.sub _ _ h
  · rw [upd_ne (ne_of_none h h5)]; exact S.ext.keep n q h
  · rcases get_set q with ⟨rfl, e, hl⟩ | ⟨_, q⟩
    · cases e
    · exact S.fr q
  · rcases get_set q with ⟨rfl, e, hl⟩ | ⟨e1, q⟩
    · cases e
      exact ⟨p', o', h1, upd_same, ho, h4, h5, h6⟩
    · obtain ⟨p2, o2, g1, g2, g3⟩ := S.ow q
      have hne : p2 ≠ p' := fun z => e1 (by subst z; exact S.inj hi q h1 g1)
      exact ⟨p2, o2, g1, by rw [upd_ne hne]; exact g2, g3⟩
  · rcases get_set q with ⟨rfl, e, hl⟩ | ⟨_, q⟩
    · cases e
    · exact S.hd q
  · have f : ∀ {j : Nat} {e : D}, (η.set i (Slot.ow d'))[j]? = some (Slot.ow e) → ∃ e2, η[j]? = some (Slot.ow e2) := fun {j e} q => by
      rcases get_set q with ⟨rfl, _, _⟩ | ⟨_, q⟩
      · exact ⟨_, hi⟩
      · exact ⟨_, q⟩
    obtain ⟨_, q⟩ := f q
    obtain ⟨_, q'⟩ := f q'
    exact S.inj q q' r r'
/-- a slot's object becomes frozen -/
theorem StOk.freeze (S : StOk R B η w σ F H) {i : Nat} {d : D} (hi : η[i]? = some (Slot.ow d)) : ∃ F', StOk R B (η.set i (Slot.fr d)) w σ F' H := by
  obtain ⟨p, o, h1, h2, h3, h4, h5, h6⟩ := S.ow hi
  have sb : Sub F (upd F p o) := fun a u h => by rw [upd_ne (ne_of_none h h4)]; exact h
  refine ⟨upd F p o, S.wok.freeze h2 h6, ⟨S.ext.mono.trans sb, S.ext.keep, fun {a u} n z h h' => ?_⟩, by simp [S.len], fun {j e} q => ?_, fun {j e} q => ?_, fun {j} q => ?_, fun {j k e e' p2} q q' r r' => ?_⟩
  · rw [upd_ne (ne_of_none h h5)]; exact S.ext.fresh n z h h'
  · rcases get_set q with ⟨rfl, e, hl⟩ | ⟨_, q⟩
    · cases e
      exact ⟨_, h1, h3.dn sb upd_same⟩
    · obtain ⟨v, g1, g2⟩ := S.fr q
      exact ⟨v, g1, g2.mono sb⟩
  · rcases get_set q with ⟨rfl, e, hl⟩ | ⟨e1, q⟩
    · cases e
    · obtain ⟨p2, o2, g1, g2, g3, g4, g5⟩ := S.ow q
      have hne : p2 ≠ p := fun z => e1 (by subst z; exact S.inj hi q h1 g1)
      exact ⟨p2, o2, g1, g2, g3.mono sb, by rw [upd_ne hne]; exact g4, g5⟩
  · rcases get_set q with ⟨rfl, e, hl⟩ | ⟨_, q⟩
    · cases e
    · exact S.hd q
  · rcases get_set q with ⟨rfl, e, hl⟩ | ⟨_, q⟩
    · cases e
    rcases get_set q' with ⟨rfl, e, hl⟩ | ⟨_, q'⟩
    · cases e
    exact S.inj q q' r r'
/-- forgetting a slot -/
theorem StOk.forget (S : StOk R B η w σ F H) (i : Nat) (x : Option V) : StOk R B (η.set i Slot.un) w (σ.set i x) F H where
  wok := S.wok
  ext := S.ext
  len := by simp [S.len]
  fr := fun {j d'} q => by
    rcases get_set q with ⟨rfl, e, hl⟩ | ⟨e, q⟩
    · cases e
    · rw [List.getElem?_set_ne e]; exact S.fr q
  ow := fun {j d'} q => by
    rcases get_set q with ⟨rfl, e, hl⟩ | ⟨e, q⟩
    · cases e
    · rw [List.getElem?_set_ne e]; exact S.ow q
  hd := fun {j} q => by
    rcases get_set q with ⟨rfl, e, hl⟩ | ⟨e, q⟩
    · cases e
    · rw [List.getElem?_set_ne e]; exact S.hd q
  inj := fun {j k d' e' p} q q' r r' => by
    rcases get_set q with ⟨rfl, e, hl⟩ | ⟨e, q⟩
    · cases e
    rcases get_set q' with ⟨rfl, e1, hl⟩ | ⟨e1, q'⟩
    · cases e1
    rw [List.getElem?_set_ne e] at r
    rw [List.getElem?_set_ne e1] at r'
    exact S.inj q q' r r'
end
end Cw

namespace Cw
open PySem PySem.Spec PyProof.Rows L2

/-! ### judgements: a rule of the hand layer, with the data function that it refines -/
abbrev FE (W : Type) := EnvD → W → Res (D × W)
abbrev FT (W : Type) := EnvD → W → Res (Bool × W)
abbrev FA (W : Type) := EnvD → W → Res (List D × W)
inductive Out where
  | nx (η : EnvD)
  | rt (d : D)
  | bk (η : EnvD)
  | ct (η : EnvD)
abbrev FS (W : Type) := EnvD → W → Res (Out × W)

section
variable {W : Type}
/-- a value that may be read: frozen, or an object of a slot -/
inductive Sq (R : Rsc W) (F H : Hp) : V → D → Prop
  | fr {v : V} {d : D} : Dn F v d → Sq R F H v d
  | ow {p : Addr} {o : HO} {d : D} : H p = some o → OwO F d o → ¬ R.foot p ∧ F p = none → Sq R F H (.ref p) d
inductive SqAll (R : Rsc W) (F H : Hp) : List V → List D → Prop
  | nil : SqAll R F H [] []
  | cons {v : V} {vs : List V} {d : D} {ds : List D} : Sq R F H v d → SqAll R F H vs ds → SqAll R F H (v :: vs) (d :: ds)
variable {R : Rsc W} {F H F1 H1 : Hp} {w w1 : W} {X : Cx}
theorem Sq.go {v : V} {d : D} (h : Sq R F H v d) (e : Ext R F H F1 H1) : Sq R F1 H1 v d := by
  cases h with
  | fr h => exact .fr (h.mono e.mono)
  | ow h o n => exact .ow (e.keep n.1 (.inl n.2) h) (o.mono e.mono) ⟨n.1, e.fresh n.1 o.nofix h n.2⟩
theorem SqAll.go {v : List V} {d : List D} (h : SqAll R F H v d) (e : Ext R F H F1 H1) : SqAll R F1 H1 v d := by
  induction h with
  | nil => exact .nil
  | cons h _ ih => exact .cons (h.go e) ih
theorem Sq.int {v : V} {i : Int} (h : Sq R F H v (.int i)) : v = .int i := by
  cases h with
  | fr h => cases h; rfl
  | ow _ o => cases o
theorem Sq.bool {v : V} {i : Bool} (h : Sq R F H v (.bool i)) : v = .bl i := by
  cases h with
  | fr h => cases h; rfl
  | ow _ o => cases o
theorem Sq.str {v : V} {i : Str} (h : Sq R F H v (.str i)) : v = .str i := by
  cases h with
  | fr h => cases h; rfl
  | ow _ o => cases o
theorem Sq.non {v : V} (h : Sq R F H v .none) : v = .non := by
  cases h with
  | fr h => cases h; rfl
  | ow _ o => cases o
theorem Wok.at {p : Addr} {o : HO} (k : Wok R F H w) (h : F p = some o) (n : ¬ IsDic o) : H p = some o := by
  rcases k.sub _ _ h with h | ⟨z, _⟩
  · exact h
  · exact absurd z n
theorem Sq.lst {v : V} {ds : List D} (k : Wok R F H w) (h : Sq R F H v (.list ds)) : ∃ p vs, v = .ref p ∧ H p = some (.lst vs) ∧ DnL F vs ds := by
  cases h with
  | fr h => cases h with
    | lst e h => exact ⟨_, _, rfl, k.at e id, h⟩
  | ow e o n => cases o with
    | lst h => exact ⟨_, _, rfl, e, h⟩
theorem Sq.tup {v : V} {ds : List D} (k : Wok R F H w) (h : Sq R F H v (.tuple ds)) : ∃ p vs, v = .ref p ∧ F p = some (.tup vs) ∧ H p = some (.tup vs) ∧ DnL F vs ds := by
  cases h with
  | fr h => cases h with
    | tup e h => exact ⟨_, _, rfl, e, k.at e id, h⟩
  | ow e o n => cases o

def PV (Q : VK) : D → Hp → Hp → Prop := fun d F' H' => ∀ v, Dn F' v d → Q v H'
def PQ (R : Rsc W) (Q : VK) : D → Hp → Hp → Prop := fun d F' H' => ∀ v, Sq R F' H' v d → Q v H'
def PN (H : Hp) (Q : VK) : D → Hp → Hp → Prop := fun d F' H' => ∀ p o, H p = none → H' p = some o → OwO F' d o → F' p = none → Q (.ref p) H'
def RefE (R : Rsc W) (t : TE) (f : FE W) : Prop := ∀ (B : Bs) (η : EnvD) (w : W) (σ : L2.St) (F H : Hp), StOk R B η w σ F H → ∀ Q : VK, Post R F H B.X (f η w) (PV Q) → t σ H Q
def RefQ (R : Rsc W) (t : TE) (f : FE W) : Prop := ∀ (B : Bs) (η : EnvD) (w : W) (σ : L2.St) (F H : Hp), StOk R B η w σ F H → ∀ Q : VK, Post R F H B.X (f η w) (PQ R Q) → t σ H Q
def RefN (R : Rsc W) (t : TE) (f : FE W) : Prop := ∀ (B : Bs) (η : EnvD) (w : W) (σ : L2.St) (F H : Hp), StOk R B η w σ F H → ∀ Q : VK, Post R F H B.X (f η w) (PN H Q) → t σ H Q
def RefT (R : Rsc W) (t : TT) (f : FT W) : Prop := ∀ (B : Bs) (η : EnvD) (w : W) (σ : L2.St) (F H : Hp), StOk R B η w σ F H → ∀ Q : Bool → Hp → Prop, Post R F H B.X (f η w) (fun b _ H' => Q b H') → t σ H Q
def RefA (R : Rsc W) (t : TA) (f : FA W) : Prop := ∀ (B : Bs) (η : EnvD) (w : W) (σ : L2.St) (F H : Hp), StOk R B η w σ F H → ∀ Q : List V → Hp → Prop, Post R F H B.X (f η w) (fun ds F' H' => ∀ vs, DnL F' vs ds → Q vs H') → t σ H Q
def RefB (R : Rsc W) (t : TA) (f : FA W) : Prop := ∀ (B : Bs) (η : EnvD) (w : W) (σ : L2.St) (F H : Hp), StOk R B η w σ F H → ∀ Q : List V → Hp → Prop, Post R F H B.X (f η w) (fun ds F' H' => ∀ vs, SqAll R F' H' vs ds → Q vs H') → t σ H Q
/-- an expression: its value frozen -/
structure DE (X : Cx) (R : Rsc W) (e : Expr) (t : TE) (f : FE W) : Prop where
  pe : PE X e t
  rf : RefE R t f
/-- its value to be read at once -/
structure DQ (X : Cx) (R : Rsc W) (e : Expr) (t : TE) (f : FE W) : Prop where
  pe : PE X e t
  rf : RefQ R t f
/-- its value a new object -/
structure DN (X : Cx) (R : Rsc W) (e : Expr) (t : TE) (f : FE W) : Prop where
  pe : PE X e t
  rf : RefN R t f
structure DT (X : Cx) (R : Rsc W) (e : Expr) (t : TT) (f : FT W) : Prop where
  pt : PT X e t
  rf : RefT R t f
/-- arguments, frozen; to be read at once -/
structure DA (X : Cx) (R : Rsc W) (es : List Expr) (t : TA) (f : FA W) : Prop where
  pa : PA X es t
  rf : RefA R t f
structure DB (X : Cx) (R : Rsc W) (es : List Expr) (t : TA) (f : FA W) : Prop where
  pa : PA X es t
  rf : RefB R t f

theorem RefE.q {t : TE} {f : FE W} (h : RefE R t f) : RefQ R t f := fun B η w σ F H S Q p => h B η w σ F H S Q (p.imp fun a w' F' H' _ _ _ q v hv => q v (.fr hv))
theorem PN_of {α : Type} {r : Res (D × W)} {Xc : String → Prop} {Q : VK} (k : Wok R F H w) (p : Post R F H Xc r (PV Q)) : Post R F H Xc r (PN H Q) := by
  match r, p with
  | .ok (d, w'), p =>
    intro F' H' e o q ob hn hq ho hF
    exact p _ _ (e.freeze hq hn hF) (o.freeze hq (k.notfoot hn)) _ (ho.dn (fun a u h => by rw [upd_ne (ne_of_none h hF)]; exact h) upd_same)
  | .exc c, p => exact p
  | .stk, p => exact p
theorem RefN.e {t : TE} {f : FE W} (h : RefN R t f) : RefE R t f := fun B η w σ F H S Q p => h B η w σ F H S Q (PN_of (α := Unit) S.wok p)
theorem DE.q {e : Expr} {t : TE} {f : FE W} (h : DE X R e t f) : DQ X R e t f := ⟨h.pe, h.rf.q⟩
theorem DN.e {e : Expr} {t : TE} {f : FE W} (h : DN X R e t f) : DE X R e t f := ⟨h.pe, h.rf.e⟩
theorem DN.q {e : Expr} {t : TE} {f : FE W} (h : DN X R e t f) : DQ X R e t f := h.e.q

/-! ### names, constants -/
def eV (i : Nat) : FE W := fun η w => match η[i]? with
  | some (.fr d) => .ok (d, w)
  | _ => .stk
def eVq (i : Nat) : FE W := fun η w => match η[i]? with
  | some (.fr d) => .ok (d, w)
  | some (.ow d) => .ok (d, w)
  | _ => .stk
def eC (d : D) : FE W := fun _ w => .ok (d, w)
theorem Post.here {α : Type} {Xc : String → Prop} {a : α} {P : α → Hp → Hp → Prop} (k : Wok R F H w) (p : Post R F H Xc (.ok (a, w)) P) : P a F H := p F H .refl k
theorem ref_v (i : Nat) : RefE R (tVar i) (eV i : FE W) := fun B η w σ F H S Q p => by
  unfold eV at p
  split at p
  · rename_i d h
    obtain ⟨v, h1, h2⟩ := S.fr h
    exact ⟨v, h1, p.here S.wok v h2⟩
  · exact p.elim
theorem ref_vq (i : Nat) : RefQ R (tVar i) (eVq i : FE W) := fun B η w σ F H S Q p => by
  unfold eVq at p
  split at p
  · rename_i d h
    obtain ⟨v, h1, h2⟩ := S.fr h
    exact ⟨v, h1, p.here S.wok v (.fr h2)⟩
  · rename_i d h
    obtain ⟨q, o, h1, h2, h3, h4, h5, h6⟩ := S.ow h
    exact ⟨_, h1, p.here S.wok _ (.ow h2 h3 ⟨h6, h4⟩)⟩
  · exact p.elim
theorem ref_c {v : V} {d : D} (h : ∀ F, Dn F v d) : RefE R (tC v) (eC d : FE W) := fun B η w σ F H S Q p => p.here S.wok v (h F)
theorem de_v (i : Nat) {x : Str} {pos : Pos} (hN : X.N[i]? = some x := by rfl) (hv : Vis X.env.scope x := by first | exact Or.inl rfl | exact Or.inr (Or.inl rfl) | exact Or.inr (Or.inr rfl)) (hd : (x == ("__debug__" : Str)) = false := by decide)
    (hcd : (x == ("__classdict__" : Str)) = false := by decide) : DE X R (.Name x pos) (tVar i) (eV i) := ⟨pe_var hN hv hd hcd, ref_v i⟩
theorem dq_v (i : Nat) {x : Str} {pos : Pos} (hN : X.N[i]? = some x := by rfl) (hv : Vis X.env.scope x := by first | exact Or.inl rfl | exact Or.inr (Or.inl rfl) | exact Or.inr (Or.inr rfl)) (hd : (x == ("__debug__" : Str)) = false := by decide)
    (hcd : (x == ("__classdict__" : Str)) = false := by decide) : DQ X R (.Name x pos) (tVar i) (eVq i) := ⟨pe_var hN hv hd hcd, ref_vq i⟩
theorem de_int {i j pos} : DE X R (.Constant (.int i) j pos) (tC (.int i)) (eC (.int i)) := ⟨pe_int, ref_c fun _ => .int i⟩
theorem de_bl {i j pos} : DE X R (.Constant (.bool i) j pos) (tC (.bl i)) (eC (.bool i)) := ⟨pe_bl, ref_c fun _ => .bl i⟩
theorem de_non {j pos} : DE X R (.Constant .none j pos) (tC .non) (eC .none) := ⟨pe_non, ref_c fun _ => .non⟩
theorem de_str {i j pos} : DE X R (.Constant (.str i) j pos) (tC (.str i)) (eC (.str i)) := ⟨pe_str, ref_c fun _ => .str i⟩
/-- a module's constant -/
theorem de_glob {x : Str} {v : V} {u : Value} {d : D} {pos : Pos} (hg : Gl X x) (hm : X.mg x = some u) (r : RelV v u) (h : ∀ F, Dn F v d) (hd : (x == ("__debug__" : Str)) = false := by decide) : DE X R (.Name x pos) (tC v) (eC d) := ⟨pe_glob hg hm r hd, ref_c h⟩

/-! ### operations of two and of one values -/
def ROp (R : Rsc W) (r : R2) (f : D → D → Res D) : Prop := ∀ {F H : Hp} {w : W} {x y : V} {a b : D} {Q : VK}, Wok R F H w → Sq R F H x a → Sq R F H y b → Post R F H (fun _ => False) (liftM (f a b) w) (PV Q) → r x y H Q
def RUn (R : Rsc W) (r : V → Hp → VK → Prop) (f : D → Res D) : Prop := ∀ {F H : Hp} {w : W} {x : V} {a : D} {Q : VK}, Wok R F H w → Sq R F H x a → Post R F H (fun _ => False) (liftM (f a) w) (PV Q) → r x H Q
structure OpD (X : Cx) (R : Rsc W) (fn : Value → Value → Sem Value) (r : R2) (f : D → D → Res D) : Prop where
  op : OpR X fn r
  rf : ROp R r f
/-- what does not tell an error of the program's own -/
theorem Post.nox {α : Type} {Xc : String → Prop} {r : Res α} {P : α → Hp → Hp → Prop} (h : ∀ c, r ≠ .exc c) (p : Post R F H Xc (liftM r w) P) : Post R F H (fun _ => False) (liftM r w) P := by
  match r, h, p with
  | .ok a, _, p => exact p
  | .exc c, h, _ => exact (h c rfl).elim
  | .stk, _, p => exact p
def e2 (f : D → D → Res D) (fa fb : FE W) : FE W := fun η w => bindM (fa η w) fun a w1 => bindM (fb η w1) fun b w2 => liftM (f a b) w2
def e1 (f : D → Res D) (fa : FE W) : FE W := fun η w => bindM (fa η w) fun a w1 => liftM (f a) w1
def NoX2 (f : D → D → Res D) : Prop := ∀ a b c, f a b ≠ .exc c
theorem ref_op {r : R2} {f : D → D → Res D} {ta tb : TE} {fa fb : FE W} (o : ROp R r f) (nx : NoX2 f) (ha : RefQ R ta fa) (hb : RefQ R tb fb) : RefE R (tOp r ta tb) (e2 f fa fb) := fun B η w σ F H S Q p =>
  ha B η w σ F H S _ (p.bind fun a w1 F1 H1 e k p v hv => hb B η w1 σ F1 H1 (S.go e k) _ (p.bind fun b w2 F2 H2 e2 k2 p u hu => o k2 (hv.go e2) hu (p.nox (nx a b))))
theorem ref_un {r : V → Hp → VK → Prop} {f : D → Res D} {ta : TE} {fa : FE W} (o : RUn R r f) (nx : ∀ a c, f a ≠ .exc c) (ha : RefQ R ta fa) : RefE R (tUn r ta) (e1 f fa) := fun B η w σ F H S Q p =>
  ha B η w σ F H S _ (p.bind fun a w1 F1 H1 e k p v hv => o k hv (p.nox (nx a)))
variable {a b c : Expr} {ta tb tc : TE} {fa fb fc : FE W} {pos : Pos}
theorem de_op {op : Operator} {r : R2} {f : D → D → Res D} (o : OpD X R (binaryOp op) r f) (nx : NoX2 f) (ha : DQ X R a ta fa) (hb : DQ X R b tb fb) : DE X R (.BinOp a op b pos) (tOp r ta tb) (e2 f fa fb) :=
  ⟨pe_op o.op ha.pe hb.pe, ref_op o.rf nx ha.rf hb.rf⟩
theorem de_cmp {op : CmpOp} {r : R2} {f : D → D → Res D} (o : OpD X R (compareOp op) r f) (nx : NoX2 f) (ha : DQ X R a ta fa) (hb : DQ X R b tb fb) (hm : behindInMarks op b = false) : DE X R (.Compare a [op] [b] pos) (tOp r ta tb) (e2 f fa fb) :=
  ⟨pe_cmpR o.op ha.pe hb.pe hm, ref_op o.rf nx ha.rf hb.rf⟩
def asB (r : Res (D × W)) : Res (Bool × W) := bindM r fun d w => match d with
  | .bool b => .ok (b, w)
  | _ => .stk
def tst (f : FE W) : FT W := fun η w => asB (f η w)
theorem ref_test {t : TE} {f : FE W} (h : RefE R t f) : RefT R (tTest t) (tst f) := fun B η w σ F H S Q p => by
  unfold tst asB at p
  refine h B η w σ F H S _ (p.bind fun d w1 F1 H1 e k p v hv => ?_)
  cases d with
  | bool b => cases hv; exact ⟨b, rfl, p.here k⟩
  | _ => exact p.elim
theorem dt_cmp {op : CmpOp} {r : R2} {f : D → D → Res D} (o : OpD X R (compareOp op) r f) (nx : NoX2 f) (ha : DQ X R a ta fa) (hb : DQ X R b tb fb) (hm : behindInMarks op b = false) : DT X R (.Compare a [op] [b] pos) (tTest (tOp r ta tb)) (tst (e2 f fa fb)) :=
  ⟨pt_cmpR o.op ha.pe hb.pe hm, ref_test (ref_op o.rf nx ha.rf hb.rf)⟩
theorem dt_val {e : Expr} {t : TE} {f : FE W} (h : DE X R e t f) (he : ∀ whole, isTrue e X.env whole = (do let v ← whole; standAt e.pos; holding [v] (truthy v)) := by intro _; rfl) : DT X R e (tB t) (tst f) := ⟨pt_val h.pe he, ref_test h.rf⟩
/-- a op1 b op2 c -/
def eChain (f g : D → D → Res D) (fa fb fc : FE W) : FE W := fun η w => bindM (fa η w) fun a w1 => bindM (fb η w1) fun b w2 => bindM (liftM (f a b) w2) fun d w3 => match d with
  | .bool true => bindM (fc η w3) fun c w4 => liftM (g b c) w4
  | .bool false => .ok (.bool false, w3)
  | _ => .stk
theorem ref_chain {r r' : R2} {f g : D → D → Res D} (o : ROp R r f) (nx : NoX2 f) (o' : ROp R r' g) (nx' : NoX2 g) (ha : RefQ R ta fa) (hb : RefQ R tb fb) (hc : RefQ R tc fc) : RefE R (tChain r r' ta tb tc) (eChain f g fa fb fc) := fun B η w σ F H S Q p =>
  ha B η w σ F H S _ (p.bind fun a w1 F1 H1 e k p v hv => hb B η w1 σ F1 H1 (S.go e k) _ (p.bind fun b w2 F2 H2 e2 k2 p u hu => by
    refine o k2 (hv.go e2) hu (Post.nox (Xc := B.X) (nx a b) (p.bind fun d w3 F3 H3 e3 k3 p z hz => ?_))
    have S3 := ((S.go e k).go e2 k2).go e3 k3
    cases d with
    | bool d =>
      cases hz
      cases d with
      | true => exact ⟨true, rfl, hc B η w3 σ F3 H3 S3 _ (p.bind fun c w4 F4 H4 e4 k4 p y hy => o' k4 ((hu.go e3).go e4) hy (p.nox (nx' b c)))⟩
      | false => exact ⟨false, rfl, p.here k3 _ (.bl false)⟩
    | _ => exact p.elim))
theorem de_chain {op op' : CmpOp} {r r' : R2} {f g : D → D → Res D} (o : OpD X R (compareOp op) r f) (nx : NoX2 f) (o' : OpD X R (compareOp op') r' g) (nx' : NoX2 g) (ha : DQ X R a ta fa) (hb : DQ X R b tb fb) (hc : DQ X R c tc fc)
    (hm : lastMarks [op, op'] [b, c] = false := by with_unfolding_all rfl) : DE X R (.Compare a [op, op'] [b, c] pos) (tChain r r' ta tb tc) (eChain f g fa fb fc) := ⟨pe_chain o.op o'.op ha.pe hb.pe hc.pe hm, ref_chain o.rf nx o'.rf nx' ha.rf hb.rf hc.rf⟩
theorem dt_chain {op op' : CmpOp} {r r' : R2} {f g : D → D → Res D} (o : OpD X R (compareOp op) r f) (nx : NoX2 f) (o' : OpD X R (compareOp op') r' g) (nx' : NoX2 g) (ha : DQ X R a ta fa) (hb : DQ X R b tb fb) (hc : DQ X R c tc fc)
    (hm : lastMarks [op, op'] [b, c] = false := by with_unfolding_all rfl) : DT X R (.Compare a [op, op'] [b, c] pos) (tTest (tChain r r' ta tb tc)) (tst (eChain f g fa fb fc)) := ⟨pt_chain o.op o'.op ha.pe hb.pe hc.pe hm, ref_test (ref_chain o.rf nx o'.rf nx' ha.rf hb.rf hc.rf)⟩

/-! ### and, or, not, if else -/
def tAndF (f g : FT W) : FT W := fun η w => bindM (f η w) fun b w1 => match b with
  | true => g η w1
  | false => .ok (false, w1)
def tOrF (f g : FT W) : FT W := fun η w => bindM (f η w) fun b w1 => match b with
  | true => .ok (true, w1)
  | false => g η w1
def tNotF (f : FT W) : FT W := fun η w => bindM (f η w) fun b w1 => .ok (!b, w1)
/-- and, or chains as tests -/
structure DW (X : Cx) (R : Rsc W) (e : Expr) (t : TT) (f : FT W) : Prop where
  pw : PW X e t
  rf : RefT R t f
variable {tA tB' : TT} {f g : FT W} {rest : List Expr}
theorem dw_and1 (h : DT X R a tA f) : DW X R (.BoolOp .And [a] pos) tA f := ⟨pw_and1 h.pt, h.rf⟩
theorem dw_or1 (h : DT X R a tA f) : DW X R (.BoolOp .Or [a] pos) tA f := ⟨pw_or1 h.pt, h.rf⟩
theorem ref_and (h : RefT R tA f) (h' : RefT R tB' g) : RefT R (tAnd tA tB') (tAndF f g) := fun B η w σ F H S Q p =>
  h B η w σ F H S _ (p.bind fun b w1 F1 H1 e k p => by
    cases b with
    | true => exact iteT (h' B η w1 σ F1 H1 (S.go e k) _ p)
    | false => exact iteF (p.here k))
theorem ref_or (h : RefT R tA f) (h' : RefT R tB' g) : RefT R (tOr tA tB') (tOrF f g) := fun B η w σ F H S Q p =>
  h B η w σ F H S _ (p.bind fun b w1 F1 H1 e k p => by
    cases b with
    | true => exact iteT (p.here k)
    | false => exact iteF (h' B η w1 σ F1 H1 (S.go e k) _ p))
theorem dw_and (h : DT X R a tA f) (h' : DW X R (.BoolOp .And (b :: rest) pos) tB' g) : DW X R (.BoolOp .And (a :: b :: rest) pos) (tAnd tA tB') (tAndF f g) := ⟨pw_and h.pt h'.pw, ref_and h.rf h'.rf⟩
theorem dw_or (h : DT X R a tA f) (h' : DW X R (.BoolOp .Or (b :: rest) pos) tB' g) : DW X R (.BoolOp .Or (a :: b :: rest) pos) (tOr tA tB') (tOrF f g) := ⟨pw_or h.pt h'.pw, ref_or h.rf h'.rf⟩
theorem DW.t {e : Expr} (h : DW X R e tA f) : DT X R e tA f := ⟨h.pw.pt, h.rf⟩
theorem dt_not (h : DT X R a tA f) : DT X R (.UnaryOp .Not a pos) (tNot tA) (tNotF f) := ⟨pt_not h.pt, fun B η w σ F H S Q p => h.rf B η w σ F H S _ (p.bind fun b w1 F1 H1 e k p => p.here k)⟩
/-- as values (truth values) -/
def eAnd (fa fb : FE W) : FE W := fun η w => bindM (fa η w) fun d w1 => match d with
  | .bool true => fb η w1
  | .bool false => .ok (.bool false, w1)
  | _ => .stk
def eOr (fa fb : FE W) : FE W := fun η w => bindM (fa η w) fun d w1 => match d with
  | .bool true => .ok (.bool true, w1)
  | .bool false => fb η w1
  | _ => .stk
def eNot (fa : FE W) : FE W := fun η w => bindM (fa η w) fun d w1 => match d with
  | .bool b => .ok (.bool (!b), w1)
  | _ => .stk
theorem de_one {op} (h : DE X R a ta fa) : DE X R (.BoolOp op [a] pos) ta fa := ⟨pe_one h.pe, h.rf⟩
theorem de_and (h : DE X R a ta fa) (h' : DE X R (.BoolOp .And (b :: rest) pos) tb fb) : DE X R (.BoolOp .And (a :: b :: rest) pos) (tAndV ta tb) (eAnd fa fb) := ⟨pe_and h.pe h'.pe, fun B η w σ F H S Q p =>
  h.rf B η w σ F H S _ (p.bind fun d w1 F1 H1 e k p v hv => by
    cases d with
    | bool d =>
      cases hv
      cases d with
      | true => exact ⟨true, rfl, iteT (h'.rf B η w1 σ F1 H1 (S.go e k) _ p)⟩
      | false => exact ⟨false, rfl, iteF (p.here k _ (.bl false))⟩
    | _ => exact p.elim)⟩
theorem de_or (h : DE X R a ta fa) (h' : DE X R (.BoolOp .Or (b :: rest) pos) tb fb) : DE X R (.BoolOp .Or (a :: b :: rest) pos) (tOrV ta tb) (eOr fa fb) := ⟨pe_or h.pe h'.pe, fun B η w σ F H S Q p =>
  h.rf B η w σ F H S _ (p.bind fun d w1 F1 H1 e k p v hv => by
    cases d with
    | bool d =>
      cases hv
      cases d with
      | true => exact ⟨true, rfl, iteT (p.here k _ (.bl true))⟩
      | false => exact ⟨false, rfl, iteF (h'.rf B η w1 σ F1 H1 (S.go e k) _ p)⟩
    | _ => exact p.elim)⟩
theorem de_not (h : DE X R a ta fa) : DE X R (.UnaryOp .Not a pos) (tNotV ta) (eNot fa) := ⟨pe_not h.pe, fun B η w σ F H S Q p =>
  h.rf B η w σ F H S _ (p.bind fun d w1 F1 H1 e k p v hv => by
    cases d with
    | bool d => cases hv; exact ⟨d, rfl, p.here k _ (.bl _)⟩
    | _ => exact p.elim)⟩
def eIf (f : FT W) (fa fb : FE W) : FE W := fun η w => bindM (f η w) fun b w1 => match b with
  | true => fa η w1
  | false => fb η w1
theorem de_if {c : Expr} (hc : DT X R c tA f) (ha : DE X R a ta fa) (hb : DE X R b tb fb) : DE X R (.IfExp c a b pos) (tIf tA ta tb) (eIf f fa fb) := ⟨pe_ifExp hc.pt ha.pe hb.pe, fun B η w σ F H S Q p =>
  hc.rf B η w σ F H S _ (p.bind fun b w1 F1 H1 e k p => by
    cases b with
    | true => exact iteT (ha.rf B η w1 σ F1 H1 (S.go e k) _ p)
    | false => exact iteF (hb.rf B η w1 σ F1 H1 (S.go e k) _ p))⟩

/-! ### arguments, displays -/
def aNil : FA W := fun _ w => .ok ([], w)
def aCons (fa : FE W) (r : FA W) : FA W := fun η w => bindM (fa η w) fun d w1 => bindM (r η w1) fun ds w2 => .ok (d :: ds, w2)
variable {e : Expr} {es : List Expr} {te : TE} {t : TA} {fe : FE W} {fs : FA W}
theorem da_nil : DA X R [] tNil (aNil : FA W) := ⟨pa_nil, fun B η w σ F H S Q p => p.here S.wok _ .nil⟩
theorem db_nil : DB X R [] tNil (aNil : FA W) := ⟨pa_nil, fun B η w σ F H S Q p => p.here S.wok _ .nil⟩
theorem da_cons (ha : DE X R e te fe) (hr : DA X R es t fs) (hs : starEach (e :: es) X.env = (false, eval e X.env) :: starEach es X.env := by rfl) : DA X R (e :: es) (tCons te t) (aCons fe fs) := ⟨pa_cons ha.pe hr.pa hs, fun B η w σ F H S Q p =>
  ha.rf B η w σ F H S _ (p.bind fun d w1 F1 H1 e k p v hv => hr.rf B η w1 σ F1 H1 (S.go e k) _ (p.bind fun ds w2 F2 H2 e2 k2 p vs hvs => p.here k2 _ (.cons (hv.mono e2.mono) hvs)))⟩
theorem db_cons (ha : DQ X R e te fe) (hr : DB X R es t fs) (hs : starEach (e :: es) X.env = (false, eval e X.env) :: starEach es X.env := by rfl) : DB X R (e :: es) (tCons te t) (aCons fe fs) := ⟨pa_cons ha.pe hr.pa hs, fun B η w σ F H S Q p =>
  ha.rf B η w σ F H S _ (p.bind fun d w1 F1 H1 e k p v hv => hr.rf B η w1 σ F1 H1 (S.go e k) _ (p.bind fun ds w2 F2 H2 e2 k2 p vs hvs => p.here k2 _ (.cons (hv.go e2) hvs)))⟩
def okLen (n : Nat) : Bool := Nat.ble n 1000000
theorem okLen_le {n : Nat} (h : okLen n = true) : n ≤ 1000000 := Nat.le_of_ble_eq_true h
theorem line_of {n : Nat} (h : n ≤ 1000000) : n ≤ sizeLine := by rw [sizeLine_eq]; omega
theorem line_lt {n : Nat} (h : n ≤ 1000000) : n < sizeLine := by rw [sizeLine_eq]; omega
/-- a new tuple that stands for ds -/
theorem Post.tup {Xc : String → Prop} {ds : List D} {vs : List V} {Q : VK} (k : Wok R F H w) (h : DnL F vs ds) (p : Post R F H Xc (.ok (.tuple ds, w)) (PV Q)) : ∀ q, H q = none → Q (.ref q) (upd H q (.tup vs)) := fun q n =>
  p _ _ (Ext.new k n) (k.new n) _ (.tup upd_same (h.mono fun a u x => by rw [upd_ne (ne_of_none x (k.Fnone n))]; exact x))
/-- a new list that stands for ds, one's own -/
theorem Post.lstN {Xc : String → Prop} {ds : List D} {vs : List V} {Q : VK} (k : Wok R F H w) (h : DnL F vs ds) (p : Post R F H Xc (.ok (.list ds, w)) (PN H Q)) : ∀ q, H q = none → Q (.ref q) (upd H q (.lst vs)) := fun q n =>
  p _ _ (Ext.newO n) (k.newO n) q _ n upd_same (.lst h) (k.Fnone n)
def eTup (fs : FA W) : FE W := fun η w => bindM (fs η w) fun ds w1 => match okLen ds.length with
  | true => .ok (.tuple ds, w1)
  | false => .stk
def eLst (fs : FA W) : FE W := fun η w => bindM (fs η w) fun ds w1 => match okLen ds.length with
  | true => .ok (.list ds, w1)
  | false => .stk
theorem de_tup {x1} (h : DA X R es t fs) : DE X R (.Tuple es x1 pos) (tTup t) (eTup fs) := ⟨pe_tup h.pa, fun B η w σ F H S Q p =>
  h.rf B η w σ F H S _ (p.bind fun ds w1 F1 H1 e k p vs hvs => by
    split at p
    · rename_i hl
      exact ⟨by rw [hvs.len]; exact line_of (okLen_le hl), p.tup k hvs⟩
    · exact p.elim)⟩
theorem PN_go {r : Res (D × W)} {Xc : String → Prop} {Q : VK} {H0 : Hp} (hh : ∀ q, H q = none → H0 q = none) (p : Post R F H Xc r (PN H0 Q)) : Post R F H Xc r (PN H Q) :=
  p.imp fun a w' F' H' _ _ _ q pp o h => q pp o (hh _ h)
theorem Ext.none0 (e : Ext R F H F1 H1) (k1 : Wok R F1 H1 w1) {q : Addr} (h : H1 q = none) : H q = none := by
  cases z : H q with
  | none => rfl
  | some o =>
    by_cases f : R.foot q
    · obtain ⟨u, hu, _⟩ := R.there k1.res f
      rw [h] at hu; cases hu
    · cases y : F q with
      | none => rw [e.keep f (.inl y) z] at h; cases h
      | some u =>
        obtain ⟨z, hz⟩ := k1.sub.some (e.mono _ _ y)
        rw [h] at hz; cases hz
theorem Ext.none (e : Ext R F H F1 H1) (k : Wok R F H w) (k1 : Wok R F1 H1 w1) {q : Addr} (h : H1 q = none) : H q = none := e.none0 k1 h
theorem dn_lst (h : DA X R es t fs) : DN X R (.List es pos) (tLst t) (eLst fs) := ⟨pe_lst h.pa, fun B η w σ F H S Q p =>
  h.rf B η w σ F H S _ (p.bind fun ds w1 F1 H1 e k p vs hvs => by
    split at p
    · rename_i hl
      exact ⟨by rw [hvs.len]; exact line_of (okLen_le hl), Post.lstN k hvs (PN_go (fun q => e.none S.wok k) p)⟩
    · exact p.elim)⟩

/-! ### statements -/
def PostS (R : Rsc W) (B : Bs) (r : Res (Out × W)) (Dd : Ends) : Prop := match r with
  | .ok (.nx η', w') => ∀ σ' F' H', StOk R B η' w' σ' F' H' → Dd.nx σ' H'
  | .ok (.rt d, w') => ∀ v F' H', Ext R B.F B.H F' H' → Wok R F' H' w' → Dn F' v d → Dd.rt v H'
  | .ok (.bk η', w') => ∀ σ' F' H', StOk R B η' w' σ' F' H' → Dd.bk σ' H'
  | .ok (.ct η', w') => ∀ σ' F' H', StOk R B η' w' σ' F' H' → Dd.ct σ' H'
  | .exc c => B.X c
  | .stk => False
def RefS (R : Rsc W) (t : TS) (g : FS W) : Prop := ∀ (B : Bs) (η : EnvD) (w : W) (σ : L2.St) (F H : Hp), StOk R B η w σ F H → ∀ Dd : Ends, PostS R B (g η w) Dd → t Dd σ H
structure DS (X : Cx) (R : Rsc W) (st : Stmt) (t : TS) (g : FS W) : Prop where
  ps : PS X st t
  rf : RefS R t g
structure DSs (X : Cx) (R : Rsc W) (st : List Stmt) (t : TS) (g : FS W) : Prop where
  ps : PSs X st t
  rf : RefS R t g
/-- behind an expression -/
theorem PostS.bind {α : Type} {B : Bs} {η : EnvD} {σ : L2.St} {r : Res (α × W)} {k : α → W → Res (Out × W)} {Dd : Ends} {P : α → Hp → Hp → Prop} (S : StOk R B η w σ F H) (p : PostS R B (bindM r k) Dd)
    (h : ∀ a w1 F1 H1, StOk R B η w1 σ F1 H1 → Ext R F H F1 H1 → PostS R B (k a w1) Dd → P a F1 H1) : Post R F H B.X r P := by
  match r, p with
  | .ok (a, w1), p => exact fun F1 H1 e o => h a w1 F1 H1 (S.go e o) e p
  | .exc c, p => exact p
  | .stk, p => exact p
def sNil : FS W := fun η w => .ok (.nx η, w)
def sSeq (g h : FS W) : FS W := fun η w => bindM (g η w) fun o w1 => match o with
  | .nx η' => h η' w1
  | o => .ok (o, w1)
variable {st : Stmt} {sts : List Stmt} {tS uS : TS} {gS hS : FS W}
theorem dss_nil : DSs X R [] tNext (sNil : FS W) := ⟨pss_nil, fun B η w σ F H S Dd p => p σ F H S⟩
theorem PostS.seq {B : Bs} {r : Res (Out × W)} {h : FS W} {Dd : Ends} {u : TS} (hr : RefS R u h) (p : PostS R B (bindM r fun o w1 => match o with | .nx η' => h η' w1 | o => .ok (o, w1)) Dd) : PostS R B r { Dd with nx := u Dd } := by
  match r, p with
  | .ok (.nx η', w1), p => exact fun σ' F' H' S => hr B η' w1 σ' F' H' S Dd p
  | .ok (.rt d, w1), p => exact p
  | .ok (.bk η', w1), p => exact p
  | .ok (.ct η', w1), p => exact p
  | .exc c, p => exact p
  | .stk, p => exact p
theorem dss_cons (h1 : DS X R st tS gS) (h2 : DSs X R sts uS hS) : DSs X R (st :: sts) (tSeq tS uS) (sSeq gS hS) := ⟨pss_cons h1.ps h2.ps, fun B η w σ F H S Dd p => h1.rf B η w σ F H S _ (p.seq h2.rf)⟩
theorem dss_one (h1 : DS X R st tS gS) : DSs X R [st] tS gS := ⟨pss_one h1.ps, h1.rf⟩
/-- what the proof never comes to -/
def sStk : FS W := fun _ _ => .stk
theorem ds_never : DS X R st tNever (sStk : FS W) := ⟨ps_never, fun B η w σ F H S Dd p => p⟩
theorem dss_never : DSs X R sts tNever (sStk : FS W) := ⟨pss_never, fun B η w σ F H S Dd p => p⟩
/-- an object of a slot is frozen, ahead of a statement -/
def sFz (i : Nat) (g : FS W) : FS W := fun η w => match η[i]? with
  | some (.ow d) => g (η.set i (.fr d)) w
  | _ => g η w
theorem ref_fz {i : Nat} {t : TS} {g : FS W} (h : RefS R t g) : RefS R t (sFz i g) := fun B η w σ F H S Dd p => by
  unfold sFz at p
  split at p
  · rename_i d hi
    obtain ⟨F', S'⟩ := S.freeze hi
    exact h B _ w σ F' H S' Dd p
  · exact h B η w σ F H S Dd p
theorem ds_fz (i : Nat) (h : DS X R st tS gS) : DS X R st tS (sFz i gS) := ⟨h.ps, ref_fz h.rf⟩
def sSet (i : Nat) (f : FE W) : FS W := fun η w => bindM (f η w) fun d w1 => .ok (.nx (η.set i (.fr d)), w1)
def sSetN (i : Nat) (f : FE W) : FS W := fun η w => bindM (f η w) fun d w1 => .ok (.nx (η.set i (.ow d)), w1)
theorem ref_set (i : Nat) {t : TE} {f : FE W} (h : RefE R t f) : RefS R (tAsg t (gName i)) (sSet i f) := fun B η w σ F H S Dd p =>
  h B η w σ F H S _ (p.bind S fun d w1 F1 H1 S1 e p v hv => p _ F1 H1 (S1.setFr i hv))
theorem ref_setN (i : Nat) {t : TE} {f : FE W} (h : RefN R t f) : RefS R (tAsg t (gName i)) (sSetN i f) := fun B η w σ F H S Dd p =>
  h B η w σ F H S _ (p.bind S fun d w1 F1 H1 S1 e p q o hn hq ho hF => by
    refine p _ F1 H1 (S1.setOw i hq ho hF ?_ (S.wok.notfoot hn) fun {j e'} hj hs => ?_)
    · exact S.ext.none0 S.wok hn
    · obtain ⟨p2, o2, g1, g2, _⟩ := S.ow hj
      rw [hs] at g1
      cases g1
      rw [hn] at g2; cases g2)
theorem ds_set {i : Nat} {x : Str} {pos' : Pos} (hN : X.N.Nodup) (hi : X.N[i]? = some x) (hx : Loc X.env.scope x) (he : DE X R e te fe) (hs : swapsWith e (some (.Name x pos')) pos.line X.env = pure false := by rfl) (hf : X.fn x = true ∨ X.env.scope.names.lookup x = some .local := by first | exact .inl rfl | exact .inr rfl | assumption) :
    DS X R (.Assign [.Name x pos'] e pos) (tAsg te (gName i)) (sSet i fe) := ⟨ps_set hN hi hx he.pe hs hf, ref_set i he.rf⟩
theorem ds_setN {i : Nat} {x : Str} {pos' : Pos} (hN : X.N.Nodup) (hi : X.N[i]? = some x) (hx : Loc X.env.scope x) (he : DN X R e te fe) (hs : swapsWith e (some (.Name x pos')) pos.line X.env = pure false := by rfl) (hf : X.fn x = true ∨ X.env.scope.names.lookup x = some .local := by first | exact .inl rfl | exact .inr rfl | assumption) :
    DS X R (.Assign [.Name x pos'] e pos) (tAsg te (gName i)) (sSetN i fe) := ⟨ps_set hN hi hx he.pe hs hf, ref_setN i he.rf⟩
def sRet (f : FE W) : FS W := fun η w => bindM (f η w) fun d w1 => .ok (.rt d, w1)
theorem ref_ret {t : TE} {f : FE W} (h : RefE R t f) : RefS R (tRet t) (sRet f) := fun B η w σ F H S Dd p =>
  h B η w σ F H S _ (p.bind S fun d w1 F1 H1 S1 e p v hv => p v F1 H1 S1.ext S1.wok hv)
theorem ds_ret (he : DE X R e te fe) : DS X R (.Return (some e) pos) (tRet te) (sRet fe) := ⟨ps_ret he.pe, ref_ret he.rf⟩
theorem ds_retN : DS X R (.Return none pos) tRetN (sRet (eC .none) : FS W) := ⟨ps_retN, fun B η w σ F H S Dd p => p .non F H S.ext S.wok .non⟩
theorem ds_pass : DS X R (.Pass pos) tNext (sNil : FS W) := ⟨ps_pass, fun B η w σ F H S Dd p => p σ F H S⟩
def sBrk : FS W := fun η w => .ok (.bk η, w)
def sCnt : FS W := fun η w => .ok (.ct η, w)
theorem ds_break : DS X R (.Break pos) tBreak (sBrk : FS W) := ⟨ps_break, fun B η w σ F H S Dd p => p σ F H S⟩
theorem ds_cont : DS X R (.Continue pos) tCont (sCnt : FS W) := ⟨ps_continue, fun B η w σ F H S Dd p => p σ F H S⟩
def sIf (f : FT W) (g h : FS W) : FS W := fun η w => bindM (f η w) fun b w1 => match b with
  | true => g η w1
  | false => h η w1
theorem ds_if {c : Expr} {as bs : List Stmt} (hc : DT X R c tA f) (ha : DSs X R as tS gS) (hb : DSs X R bs uS hS) : DS X R (.If c as bs pos) (tIfS tA tS uS) (sIf f gS hS) := ⟨ps_if hc.pt ha.ps hb.ps, fun B η w σ F H S Dd p =>
  hc.rf B η w σ F H S _ (p.bind S fun b w1 F1 H1 S1 e p => by
    cases b with
    | true => exact iteT (ha.rf B η w1 σ F1 H1 S1 Dd p)
    | false => exact iteF (hb.rf B η w1 σ F1 H1 S1 Dd p))⟩
/-- an expression whose value is dropped -/
def sDrop (f : FE W) : FS W := fun η w => bindM (f η w) fun _ w1 => .ok (.nx η, w1)
theorem ds_expr (he : DE X R e te fe) (hs : swapsWith e none pos.line X.env = pure false := by rfl) : DS X R (.Expr e pos) (tDrop te) (sDrop fe) := ⟨ps_expr he.pe hs, fun B η w σ F H S Dd p =>
  he.rf B η w σ F H S _ (p.bind S fun d w1 F1 H1 S1 e p v hv => p σ F1 H1 S1)⟩

/-! ### while -/
def sWhile : Nat → FT W → FS W → FS W
  | 0, _, _ => fun _ _ => .stk
  | n + 1, f, g => fun η w => bindM (f η w) fun b w1 => match b with
    | false => .ok (.nx η, w1)
    | true => bindM (g η w1) fun o w2 => match o with
      | .nx η' => sWhile n f g η' w2
      | .ct η' => sWhile n f g η' w2
      | .bk η' => .ok (.nx η', w2)
      | .rt d => .ok (.rt d, w2)
theorem ref_while (n : Nat) {tc : TT} {tb : TS} {f : FT W} {g : FS W} (hc : RefT R tc f) (hb : RefS R tb g) : RefS R (tWhile tc tb) (sWhile n f g) := fun B η w σ F H S Dd p => by
  refine ⟨fun m σ H => ∃ η w F, StOk R B η w σ F H ∧ PostS R B (sWhile m f g η w) Dd, ⟨n, η, w, F, S, p⟩, fun m σ H h => ?_⟩
  obtain ⟨η, w, F, S, p⟩ := h
  cases m with
  | zero => exact p.elim
  | succ m =>
    refine hc B η w σ F H S _ (PostS.bind S p fun b w1 F1 H1 S1 e p => ?_)
    cases b with
    | false => exact iteF (p σ F1 H1 S1)
    | true =>
      refine iteT ⟨fun σ' H' => ∃ η' w' F', StOk R B η' w' σ' F' H' ∧ PostS R B (sWhile m f g η' w') Dd, fun σ' H' h => ⟨m, Nat.lt_succ_self m, h⟩, ?_⟩
      refine hb B η w1 σ F1 H1 S1 _ ?_
      revert p
      generalize g η w1 = r
      intro p
      match r, p with
      | .ok (.nx η', w2), p => exact fun σ' F' H' S' => ⟨η', w2, F', S', p⟩
      | .ok (.ct η', w2), p => exact fun σ' F' H' S' => ⟨η', w2, F', S', p⟩
      | .ok (.bk η', w2), p => exact p
      | .ok (.rt d, w2), p => exact p
      | .exc c, p => exact p
      | .stk, p => exact p
theorem ds_while (n : Nat) {c : Expr} {body : List Stmt} (hp : PassesOwn (model X.prog X.w) X.A X.env X.xe) (hc : DT X R c tA f) (hb : DSs X R body tS gS) : DS X R (.While c body [] pos) (tWhile tA tS) (sWhile n f gS) := ⟨ps_while hp hc.pt hb.ps, ref_while n hc.rf hb.rf⟩
end
end Cw

namespace Cw
open PySem PySem.Spec PyProof.Rows L2

/-! ### frozen data as the hand layer's data -/
mutual
theorem Dn.dp {K : PySem.W.Frag} {F H : Hp} (s : SubR F H) : ∀ {v : V} {d : D}, Dn F v d → d.plain = true → Dp K H v d
  | _, _, .non, _ => .non
  | _, _, .bl b, _ => .bl b
  | _, _, .int i, _ => .int i
  | _, _, .str x, _ => .str x
  | _, _, .lst h t, p => .lst (SqL.of (by rcases s _ _ h with h | ⟨z, _⟩; exact h; exact z.elim)) (DnL.dp s t (by simpa [PyData.plain] using p))
  | _, _, .tup h t, p => .tup (SqT.of (by rcases s _ _ h with h | ⟨z, _⟩; exact h; exact z.elim)) (DnL.dp s t (by simpa [PyData.plain] using p))
  | _, _, .dK _ _, p => by simp [PyData.plain] at p
  | _, _, .dT _ _, p => by simp [PyData.plain] at p
theorem DnL.dp {K : PySem.W.Frag} {F H : Hp} (s : SubR F H) : ∀ {v : List V} {d : List D}, DnL F v d → PyData.plainAll d = true → DpAll K H v d
  | _, _, .nil, _ => .nil
  | _, _, .cons h t, p => by
    have q := p
    simp only [PyData.plainAll, Bool.and_eq_true] at q
    exact .cons (Dn.dp s h q.1) (DnL.dp s t q.2)
end
section
variable {W : Type} {R : Rsc W} {F H F1 H1 : Hp} {w w1 : W} {X : Cx}
theorem Sq.dp {K : PySem.W.Frag} (k : Wok R F H w) {v : V} {d : D} (h : Sq R F H v d) (p : d.plain = true) : Dp K H v d := by
  cases h with
  | fr h => exact h.dp k.sub p
  | ow e o n => cases o with
    | lst h => exact .lst (SqL.of e) (h.dp k.sub (by simpa [PyData.plain] using p))
    | dK h => simp [PyData.plain] at p
    | dT h => simp [PyData.plain] at p

/-! ### arithmetic -/
def i2 (g : Int → Int → Int) (a b : D) : Res D := match a, b with
  | .int i, .int j => .ok (.int (g i j))
  | _, _ => .stk
def c2 (g : Int → Int → Bool) (a b : D) : Res D := match a, b with
  | .int i, .int j => .ok (.bool (g i j))
  | _, _ => .stk
theorem rop_i2 {g : Int → Int → Int} : ROp R (rI0 fun i j => .int (g i j)) (i2 g) := by
  intro F H w x y a b Q k hx hy p
  unfold i2 at p
  split at p
  · exact ⟨_, _, hx.int, hy.int, p.here k _ (.int _)⟩
  · exact p.elim
theorem rop_c2 {g : Int → Int → Bool} : ROp R (rI0 fun i j => .bl (g i j)) (c2 g) := by
  intro F H w x y a b Q k hx hy p
  unfold c2 at p
  split at p
  · exact ⟨_, _, hx.int, hy.int, p.here k _ (.bl _)⟩
  · exact p.elim
theorem nx_i2 {g : Int → Int → Int} : NoX2 (i2 g) := by intro a b c; unfold i2; split <;> simp
theorem nx_c2 {g : Int → Int → Bool} : NoX2 (c2 g) := by intro a b c; unfold c2; split <;> simp
abbrev subD := i2 fun i j => i - j
abbrev ltD := c2 fun i j => decide (i < j)
abbrev leD := c2 fun i j => decide (i ≤ j)
abbrev gtD := c2 fun i j => decide (j < i)
abbrev geD := c2 fun i j => decide (j ≤ i)
theorem o_sub : OpD X R (binaryOp .Sub) (rI0 fun i j => .int (i - j)) subD := ⟨op_sub, rop_i2⟩
theorem o_lt : OpD X R (compareOp .Lt) (rI0 fun i j => .bl (decide (i < j))) ltD := ⟨op_lt, rop_c2⟩
theorem o_le : OpD X R (compareOp .LtE) (rI0 fun i j => .bl (decide (i ≤ j))) leD := ⟨op_le, rop_c2⟩
theorem o_gt : OpD X R (compareOp .Gt) (rI0 fun i j => .bl (decide (j < i))) gtD := ⟨op_gt, rop_c2⟩
theorem o_ge : OpD X R (compareOp .GtE) (rI0 fun i j => .bl (decide (j ≤ i))) geD := ⟨op_ge, rop_c2⟩
/-- products: one factor small -/
def small64 (i : Int) : Bool := decide (-(2 ^ 64) < i) && decide (i < 2 ^ 64)
def mulD (a b : D) : Res D := match a, b with
  | .int i, .int j => match small64 i || small64 j with
    | true => .ok (.int (i * j))
    | false => .stk
  | .list xs, .int j => match decide (0 ≤ j) && decide (j ≤ 1000) && okLen (xs.length * j.toNat) with
    | true => .ok (.list (List.replicate j.toNat xs).flatten)
    | false => .stk
  | .tuple xs, .int j => match !xs.isEmpty && decide (2 ≤ j) && decide (j ≤ 1000) && decide (xs.length ≤ 1000) with
    | true => .ok (.tuple (List.replicate j.toNat xs).flatten)
    | false => .stk
  | _, _ => .stk
def rMulD (K : PySem.W.Frag) : R2 := fun x y H Q => rI CMul (fun i j => .int (i * j)) x y H Q ∨ rRep x y H Q ∨ rRepT K x y H Q
theorem nx_mul : NoX2 mulD := by
  intro a b c
  unfold mulD
  split <;> (try split) <;> simp
theorem small64_ok {i : Int} (h : small64 i = true) : -(2 ^ 64) < i ∧ i < 2 ^ 64 := by
  unfold small64 at h
  rw [Bool.and_eq_true] at h
  exact ⟨of_decide_eq_true h.1, of_decide_eq_true h.2⟩
theorem DnL.mono1 {vs : List V} {ds : List D} {p : Addr} {o : HO} (h : DnL F vs ds) (n : F p = none) : DnL (upd F p o) vs ds := h.mono fun a u x => by rw [upd_ne (ne_of_none x n)]; exact x
/-- a new list that stands for ds, frozen at once -/
theorem Post.lst {Xc : String → Prop} {ds : List D} {vs : List V} {Q : VK} (k : Wok R F H w) (h : DnL F vs ds) (p : Post R F H Xc (.ok (.list ds, w)) (PV Q)) : ∀ q, H q = none → Q (.ref q) (upd H q (.lst vs)) := fun q n =>
  p _ _ (Ext.new k n) (k.new n) _ (.lst upd_same (h.mono1 (k.Fnone n)))
theorem o_mul : OpD X R (binaryOp .Mult) (rMulD X.K) mulD := by
  refine ⟨OpR.or op_mul (OpR.or op_rep op_repT), ?_⟩
  intro F H w x y a b Q k hx hy p
  unfold mulD at p
  split at p
  · split at p
    · rename_i h
      refine .inl ⟨_, _, hx.int, hy.int, ?_, p.here k _ (.int _)⟩
      rw [Bool.or_eq_true] at h
      exact h.imp small64_ok small64_ok
    · exact p.elim
  · split at p
    · rename_i xs j _ h
      simp only [Bool.and_eq_true, decide_eq_true_eq] at h
      obtain ⟨q, vs, rfl, hq, hd⟩ := hx.lst k
      refine .inr (.inl ⟨q, j, vs, rfl, hy.int, hq, by omega, by omega, ?_, Post.lst k (hd.rep _) p⟩)
      rw [hd.len]; exact line_of (okLen_le h.2)
    · exact p.elim
  · split at p
    · rename_i xs j _ h
      simp only [Bool.and_eq_true, decide_eq_true_eq, Bool.not_eq_true', List.isEmpty_eq_false_iff] at h
      obtain ⟨q, vs, rfl, hq, hq', hd⟩ := hx.tup k
      refine .inr (.inr ⟨q, j, vs, rfl, hy.int, SqT.of hq', fun e => h.1.1.1 ((hd.nil_iff).mp e), h.1.1.2, h.1.2, by rw [hd.len]; exact h.2, Post.tup k (hd.rep _) p⟩)
    · exact p.elim
  · exact p.elim
/-- // and % by a positive number -/
def fdivD (a b : D) : Res D := match a, b with
  | .int i, .int j => match decide (0 < j) && decide (j < 1073741824) with
    | true => .ok (.int (i / j))
    | false => .stk
  | _, _ => .stk
def modD (a b : D) : Res D := match a, b with
  | .int i, .int j => match decide (0 < j) with
    | true => .ok (.int (i % j))
    | false => .stk
  | _, _ => .stk
theorem nx_fdiv : NoX2 fdivD := by intro a b c; unfold fdivD; split <;> (try split) <;> simp
theorem nx_mod : NoX2 modD := by intro a b c; unfold modD; split <;> (try split) <;> simp
theorem o_fdiv : OpD X R (binaryOp .FloorDiv) (rI CDiv fun i j => .int (i / j)) fdivD := by
  refine ⟨op_fdiv, ?_⟩
  intro F H w x y a b Q k hx hy p
  unfold fdivD at p
  split at p
  · split at p
    · rename_i h
      simp only [Bool.and_eq_true, decide_eq_true_eq] at h
      exact ⟨_, _, hx.int, hy.int, h, p.here k _ (.int _)⟩
    · exact p.elim
  · exact p.elim
theorem o_mod : OpD X R (binaryOp .Mod) (rI (fun _ j => 0 < j) fun i j => .int (i % j)) modD := by
  refine ⟨op_mod, ?_⟩
  intro F H w x y a b Q k hx hy p
  unfold modD at p
  split at p
  · split at p
    · rename_i h
      exact ⟨_, _, hx.int, hy.int, of_decide_eq_true h, p.here k _ (.int _)⟩
    · exact p.elim
  · exact p.elim
/-! ### + -/
def addD (a b : D) : Res D := match a, b with
  | .int i, .int j => .ok (.int (i + j))
  | .tuple xs, .tuple ys => match okLen (xs.length + ys.length) with
    | true => .ok (.tuple (xs ++ ys))
    | false => .stk
  | .list xs, .list ys => match okLen (xs.length + ys.length) with
    | true => .ok (.list (xs ++ ys))
    | false => .stk
  | .str x, .str y => match okLen (x.length + y.length) with
    | true => .ok (.str (x ++ y))
    | false => .stk
  | _, _ => .stk
def rStrCat : R2 := fun x y H Q => ∃ i j, x = .str i ∧ y = .str j ∧ i.length + j.length ≤ sizeLine ∧ Q (.str (i ++ j)) H
def rAddD (K : PySem.W.Frag) : R2 := fun x y H Q => rI0 (fun i j => .int (i + j)) x y H Q ∨ rCatA K x y H Q ∨ rCat x y H Q ∨ rStrCat x y H Q
theorem nx_add : NoX2 addD := by intro a b c; unfold addD; split <;> (try split) <;> simp
theorem o_add : OpD X R (binaryOp .Add) (rAddD X.K) addD := by
  refine ⟨OpR.or op_add (OpR.or op_catA (OpR.or op_cat op_add_str)), ?_⟩
  intro F H w x y a b Q k hx hy p
  unfold addD at p
  split at p
  · exact .inl ⟨_, _, hx.int, hy.int, p.here k _ (.int _)⟩
  · split at p
    · rename_i h
      obtain ⟨q, vs, rfl, hq, hq', hd⟩ := hx.tup k
      obtain ⟨q2, vs2, rfl, hq2, hq2', hd2⟩ := hy.tup k
      refine .inr (.inl ⟨q, q2, vs, vs2, rfl, rfl, SqT.of hq', SqT.of hq2', by rw [hd.len, hd2.len]; exact line_of (okLen_le h), fun e => ?_, fun _ e => ?_, fun _ _ => Post.tup k (hd.append hd2) p⟩)
      · have e' := hd.nil_iff.mp e
        subst e'
        exact p.here k _ (.tup hq2 hd2)
      · have e' := hd2.nil_iff.mp e
        subst e'
        rw [List.append_nil] at p
        exact p.here k _ (.tup hq hd)
    · exact p.elim
  · split at p
    · rename_i h
      obtain ⟨q, vs, rfl, hq, hd⟩ := hx.lst k
      obtain ⟨q2, vs2, rfl, hq2, hd2⟩ := hy.lst k
      exact .inr (.inr (.inl ⟨q, q2, vs, vs2, rfl, rfl, hq, hq2, by rw [hd.len, hd2.len]; exact line_of (okLen_le h), Post.lst k (hd.append hd2) p⟩))
    · exact p.elim
  · split at p
    · rename_i h
      exact .inr (.inr (.inr ⟨_, _, hx.str, hy.str, line_of (okLen_le h), p.here k _ (.str _)⟩))
    · exact p.elim
  · exact p.elim

/-! ### == and != -/
def plainOk (d : D) : Bool := d.plain && Nat.ble d.depth 60
theorem plainOk_ok {d : D} (h : plainOk d = true) : d.plain = true ∧ d.depth ≤ 60 := by
  unfold plainOk at h
  rw [Bool.and_eq_true] at h
  exact ⟨h.1, Nat.le_of_ble_eq_true h.2⟩
def eqD (a b : D) : Res D := match a, b with
  | .int i, .int j => .ok (.bool (i == j))
  | a, b => match plainOk a && plainOk b with
    | true => .ok (.bool (PyData.eqv a b))
    | false => .stk
def neD (a b : D) : Res D := match a, b with
  | .int i, .int j => .ok (.bool (!(i == j)))
  | a, b => match plainOk a && plainOk b with
    | true => .ok (.bool (!PyData.eqv a b))
    | false => .stk
def rEqP (K : PySem.W.Frag) : R2 := fun x y H Q => ∃ d e, Dp K H x d ∧ Dp K H y e ∧ d.plain = true ∧ e.plain = true ∧ d.depth ≤ 60 ∧ Q (.bl (PyData.eqv d e)) H
def rNeP (K : PySem.W.Frag) : R2 := fun x y H Q => ∃ d e, Dp K H x d ∧ Dp K H y e ∧ d.plain = true ∧ e.plain = true ∧ d.depth ≤ 60 ∧ Q (.bl (!PyData.eqv d e)) H
theorem op_eqP (hu : X.A.units + 64 < cLine) : OpR X (compareOp .Eq) (rEqP X.K) := by
  intro pins s σ H x y v u Q I rx ry h
  obtain ⟨d, e, hd, he, sd, se, dd, q⟩ := h
  obtain ⟨as, r1⟩ := Dp.reads I d x v hd rx
  obtain ⟨bs, r2⟩ := Dp.reads I e y u he ry
  exact PySem.SeqAt.eq_plain r1 r2 sd se (by have := Nat.min_le_left d.depth e.depth; omega) ⟨.bl _, H, I, rfl, q⟩
theorem op_neP (hu : X.A.units + 64 < cLine) : OpR X (compareOp .NotEq) (rNeP X.K) := by
  intro pins s σ H x y v u Q I rx ry h
  obtain ⟨d, e, hd, he, sd, se, dd, q⟩ := h
  obtain ⟨as, r1⟩ := Dp.reads I d x v hd rx
  obtain ⟨bs, r2⟩ := Dp.reads I e y u he ry
  exact PySem.SeqAt.ne_plain r1 r2 sd se (by have := Nat.min_le_left d.depth e.depth; omega) ⟨.bl _, H, I, rfl, q⟩
theorem nx_eq : NoX2 eqD := by intro a b c; unfold eqD; split <;> (try split) <;> simp
theorem nx_ne : NoX2 neD := by intro a b c; unfold neD; split <;> (try split) <;> simp
theorem depth_int (i : Int) : (PyData.int i).depth = 0 := by simp [PyData.depth]
theorem o_eq (hu : X.A.units + 64 < cLine) : OpD X R (compareOp .Eq) (rEqP X.K) eqD := by
  refine ⟨op_eqP hu, ?_⟩
  intro F H w x y a b Q k hx hy p
  unfold eqD at p
  split at p
  · rename_i i j
    refine ⟨_, _, hx.dp k rfl, hy.dp k rfl, rfl, rfl, by rw [depth_int]; exact Nat.zero_le _, ?_⟩
    simp only [PyData.eqv]
    exact p.here k _ (.bl _)
  · split at p
    · rename_i h
      rw [Bool.and_eq_true] at h
      have h1 := plainOk_ok h.1
      have h2 := plainOk_ok h.2
      exact ⟨_, _, hx.dp k h1.1, hy.dp k h2.1, h1.1, h2.1, h1.2, p.here k _ (.bl _)⟩
    · exact p.elim
theorem o_ne (hu : X.A.units + 64 < cLine) : OpD X R (compareOp .NotEq) (rNeP X.K) neD := by
  refine ⟨op_neP hu, ?_⟩
  intro F H w x y a b Q k hx hy p
  unfold neD at p
  split at p
  · rename_i i j
    refine ⟨_, _, hx.dp k rfl, hy.dp k rfl, rfl, rfl, by rw [depth_int]; exact Nat.zero_le _, ?_⟩
    simp only [PyData.eqv]
    exact p.here k _ (.bl _)
  · split at p
    · rename_i h
      rw [Bool.and_eq_true] at h
      have h1 := plainOk_ok h.1
      have h2 := plainOk_ok h.2
      exact ⟨_, _, hx.dp k h1.1, hy.dp k h2.1, h1.1, h2.1, h1.2, p.here k _ (.bl _)⟩
    · exact p.elim
/-! ### is, is not: None, truth values -/
def isNone : D → Bool
  | .none => true
  | _ => false
def isD (a b : D) : Res D := match a, b with
  | a, .none => .ok (.bool (isNone a))
  | .bool x, .bool y => .ok (.bool (decide (x = y)))
  | _, _ => .stk
def isnD (a b : D) : Res D := match a, b with
  | a, .none => .ok (.bool (!isNone a))
  | .bool x, .bool y => .ok (.bool (!decide (x = y)))
  | _, _ => .stk
theorem nx_is : NoX2 isD := by intro a b c; unfold isD; split <;> simp
theorem nx_isn : NoX2 isnD := by intro a b c; unfold isnD; split <;> simp
theorem Sq.isNone {v : V} {d : D} (h : Sq R F H v d) : decide (v = .non) = isNone d := by
  cases h with
  | fr h => cases h <;> rfl
  | ow _ o => cases o <;> rfl
def rIsN (n : Bool) : R2 := fun x y H Q => y = .non ∧ Q (.bl (n ^^ decide (x = .non))) H
theorem o_is : OpD X R (compareOp .Is) (fun x y H Q => (y = .non ∧ Q (.bl (decide (x = .non))) H) ∨ rIsB x y H Q) isD := by
  refine ⟨OpR.or op_isN op_isBl, ?_⟩
  intro F H w x y a b Q k hx hy p
  unfold isD at p
  split at p
  · exact .inl ⟨hy.non, by rw [hx.isNone]; exact p.here k _ (.bl _)⟩
  · exact .inr ⟨_, _, hx.bool, hy.bool, p.here k _ (.bl _)⟩
  · exact p.elim
theorem o_isn : OpD X R (compareOp .IsNot) (fun x y H Q => (y = .non ∧ Q (.bl (!decide (x = .non))) H) ∨ rNotB x y H Q) isnD := by
  refine ⟨OpR.or op_notN op_notBl, ?_⟩
  intro F H w x y a b Q k hx hy p
  unfold isnD at p
  split at p
  · exact .inl ⟨hy.non, by rw [hx.isNone]; exact p.here k _ (.bl _)⟩
  · exact .inr ⟨_, _, hx.bool, hy.bool, p.here k _ (.bl _)⟩
  · exact p.elim
/-! ### in, not in (lists, tuples, of any data) -/
def seqOf : D → Option (List D)
  | .list xs => some xs
  | .tuple xs => some xs
  | _ => none
def inD (a b : D) : Res D := match seqOf b with
  | some xs => match plainOk a && PyData.plainAll xs with
    | true => .ok (.bool (xs.any fun z => PyData.eqv z a))
    | false => .stk
  | none => .stk
def ninD (a b : D) : Res D := match seqOf b with
  | some xs => match plainOk a && PyData.plainAll xs with
    | true => .ok (.bool (!xs.any fun z => PyData.eqv z a))
    | false => .stk
  | none => .stk
def rInP (K : PySem.W.Frag) (n : Bool) : R2 := fun x y H Q => ∃ d ds, Dp K H x d ∧ (Dp K H y (.list ds) ∨ Dp K H y (.tuple ds)) ∧ d.plain = true ∧ PyData.plainAll ds = true ∧ d.depth ≤ 60 ∧ Q (.bl (n ^^ ds.any fun z => PyData.eqv z d)) H
theorem op_inP (hu : X.A.units + 64 < cLine) : OpR X (compareOp .In) (rInP X.K false) := by
  intro pins s σ H x y v u Q I rx ry h
  obtain ⟨d, ds, hd, he, sd, se, dd, q⟩ := h
  obtain ⟨as, r1⟩ := Dp.reads I d x v hd rx
  have hm := Nat.min_le_right (PyData.depthAll ds) d.depth
  rw [Bool.false_xor] at q
  rcases he with he | he
  · obtain ⟨bs, r2⟩ := Dp.reads I _ y u he ry
    exact PySem.SeqAt.in_list_data r2 r1 se sd (by omega) ⟨.bl _, H, I, rfl, q⟩
  · obtain ⟨bs, r2⟩ := Dp.reads I _ y u he ry
    exact PySem.SeqAt.in_tuple_data r2 r1 se sd (by omega) ⟨.bl _, H, I, rfl, q⟩
theorem op_ninP (hu : X.A.units + 64 < cLine) : OpR X (compareOp .NotIn) (rInP X.K true) := by
  intro pins s σ H x y v u Q I rx ry h
  obtain ⟨d, ds, hd, he, sd, se, dd, q⟩ := h
  obtain ⟨as, r1⟩ := Dp.reads I d x v hd rx
  have hm := Nat.min_le_right (PyData.depthAll ds) d.depth
  rw [Bool.true_xor] at q
  rcases he with he | he
  · obtain ⟨bs, r2⟩ := Dp.reads I _ y u he ry
    exact PySem.SeqAt.notIn_list_data r2 r1 se sd (by omega) ⟨.bl _, H, I, rfl, q⟩
  · obtain ⟨bs, r2⟩ := Dp.reads I _ y u he ry
    exact PySem.SeqAt.notIn_tuple_data r2 r1 se sd (by omega) ⟨.bl _, H, I, rfl, q⟩
theorem nx_in : NoX2 inD := by intro a b c; unfold inD; split <;> (try split) <;> simp
theorem nx_nin : NoX2 ninD := by intro a b c; unfold ninD; split <;> (try split) <;> simp
theorem Sq.seqdp {K : PySem.W.Frag} (k : Wok R F H w) {v : V} {d : D} {ds : List D} (h : Sq R F H v d) (e : seqOf d = some ds) (p : PyData.plainAll ds = true) : Dp K H v (.list ds) ∨ Dp K H v (.tuple ds) := by
  cases d <;> simp [seqOf] at e
  · subst e; exact .inl (h.dp k (by simpa [PyData.plain] using p))
  · subst e; exact .inr (h.dp k (by simpa [PyData.plain] using p))
theorem o_in (hu : X.A.units + 64 < cLine) : OpD X R (compareOp .In) (rInP X.K false) inD := by
  refine ⟨op_inP hu, ?_⟩
  intro F H w x y a b Q k hx hy p
  unfold inD at p
  split at p
  · rename_i xs e
    split at p
    · rename_i h
      rw [Bool.and_eq_true] at h
      have h1 := plainOk_ok h.1
      exact ⟨_, _, hx.dp k h1.1, hy.seqdp k e h.2, h1.1, h.2, h1.2, by rw [Bool.false_xor]; exact p.here k _ (.bl _)⟩
    · exact p.elim
  · exact p.elim
theorem o_nin (hu : X.A.units + 64 < cLine) : OpD X R (compareOp .NotIn) (rInP X.K true) ninD := by
  refine ⟨op_ninP hu, ?_⟩
  intro F H w x y a b Q k hx hy p
  unfold ninD at p
  split at p
  · rename_i xs e
    split at p
    · rename_i h
      rw [Bool.and_eq_true] at h
      have h1 := plainOk_ok h.1
      exact ⟨_, _, hx.dp k h1.1, hy.seqdp k e h.2, h1.1, h.2, h1.2, by rw [Bool.true_xor]; exact p.here k _ (.bl _)⟩
    · exact p.elim
  · exact p.elim
/-! ### unary minus, subscripts, slices -/
def negD (a : D) : Res D := match a with
  | .int i => .ok (.int (-i))
  | _ => .stk
theorem de_neg {a : Expr} {ta : TE} {fa : FE W} {pos : Pos} (ha : DQ X R a ta fa) : DE X R (.UnaryOp .USub a pos) (tUn (rU fun i => .int (-i)) ta) (e1 negD fa) :=
  ⟨pe_un un_neg ha.pe, ref_un (by
    intro F H w x a Q k hx p
    unfold negD at p
    split at p
    · exact ⟨_, hx.int, p.here k _ (.int _)⟩
    · exact p.elim) (by intro a c; unfold negD; split <;> simp) ha.rf⟩
def ixD (a b : D) : Res D := match a, b with
  | .list xs, .int i => match atI xs i with
    | some d => .ok d
    | none => .stk
  | .tuple xs, .int i => match atI xs i with
    | some d => .ok d
    | none => .stk
  | _, _ => .stk
theorem DnL.atI {vs : List V} {ds : List D} {i : Int} {d : D} (h : DnL F vs ds) (e : L2.atI ds i = some d) : ∃ v, L2.atI vs i = some v ∧ Dn F v d := by
  unfold L2.atI at e ⊢
  rw [h.len]
  cases z : ixN ds.length i with
  | none => rw [z] at e; cases e
  | some j =>
    rw [z] at e
    exact h.get j e
theorem nx_ix : NoX2 ixD := by intro a b c; unfold ixD; split <;> (try split) <;> simp
theorem rop_ix {K : PySem.W.Frag} : ROp R (fun x y H Q => rIxL K x y H Q ∨ rIxT K x y H Q) ixD := by
  intro F H w x y a b Q k hx hy p
  unfold ixD at p
  split at p
  · split at p
    · rename_i d e
      obtain ⟨q, vs, rfl, hq, hd⟩ := hx.lst k
      obtain ⟨v, h1, h2⟩ := hd.atI e
      exact .inl ⟨q, vs, _, v, rfl, hy.int, SqL.of hq, h1, p.here k _ h2⟩
    · exact p.elim
  · split at p
    · rename_i d e
      obtain ⟨q, vs, rfl, hq', hq, hd⟩ := hx.tup k
      obtain ⟨v, h1, h2⟩ := hd.atI e
      exact .inr ⟨q, vs, _, v, rfl, hy.int, SqT.of hq, h1, p.here k _ h2⟩
    · exact p.elim
  · exact p.elim
theorem de_ix {a b : Expr} {ta tb : TE} {fa fb : FE W} {pos : Pos} (ha : DQ X R a ta fa) (hb : DQ X R b tb fb) (hs : PlainIx b := by exact fun _ _ => rfl) : DE X R (.Subscript a b pos) (tOp (fun x y H Q => rIxL X.K x y H Q ∨ rIxT X.K x y H Q) ta tb) (e2 ixD fa fb) :=
  ⟨pe_ix (IxR.or ix_list ix_tup) ha.pe hb.pe hs, ref_op rop_ix nx_ix ha.rf hb.rf⟩
/-- parts of a slice -/
abbrev FO (W : Type) := EnvD → W → Res (Option Int × W)
structure DO (X : Cx) (R : Rsc W) (e : Option Expr) (t : TO) (f : FO W) : Prop where
  po : PO X e t
  rf : ∀ (B : Bs) (η : EnvD) (w : W) (σ : L2.St) (F H : Hp), StOk R B η w σ F H → ∀ Q : Option Int → Hp → Prop, Post R F H B.X (f η w) (fun o F' H' => Q o H') → t σ H Q
def oNone : FO W := fun _ w => .ok (none, w)
def oSome (f : FE W) : FO W := fun η w => bindM (f η w) fun d w1 => match d with
  | .int i => .ok (some i, w1)
  | _ => .stk
theorem do_none : DO X R none tNoPart (oNone : FO W) := ⟨po_none, fun B η w σ F H S Q p => p.here S.wok⟩
theorem do_some {e : Expr} {t : TE} {f : FE W} (h : DQ X R e t f) : DO X R (some e) (tPart t) (oSome f) := ⟨po_some h.pe, fun B η w σ F H S Q p =>
  h.rf B η w σ F H S _ (p.bind fun d w1 F1 H1 e k p v hv => by
    cases d with
    | int i => exact ⟨i, hv.int, p.here k⟩
    | _ => exact p.elim)⟩
def cutL {α : Type} (xs : List α) (lo hi : Option Int) : List α := (xs.drop (HT.sIx xs.length 0 lo)).take (HT.sIx xs.length xs.length hi - HT.sIx xs.length 0 lo)
def eSlice (fa : FE W) (fl fh : FO W) : FE W := fun η w => bindM (fa η w) fun d w1 => bindM (fl η w1) fun lo w2 => bindM (fh η w2) fun hi w3 => match d with
  | .tuple xs => .ok (.tuple (cutL xs lo hi), w3)
  | .list xs => .ok (.list (cutL xs lo hi), w3)
  | _ => .stk
theorem cutL_whole {α : Type} (xs : List α) {lo hi : Option Int} (h : HT.sIx xs.length 0 lo = 0 ∧ HT.sIx xs.length xs.length hi = xs.length) : cutL xs lo hi = xs := by
  unfold cutL
  rw [h.1, h.2]
  simp
theorem DnL.cut {vs : List V} {ds : List D} (h : DnL F vs ds) (lo hi : Option Int) : DnL F (cutV vs lo hi) (cutL ds lo hi) := by
  unfold cutV cutL
  rw [h.len]
  exact (h.drop _).take _
theorem de_slice {e : Expr} {lo hi : Option Expr} {te : TE} {tl th : TO} {fe : FE W} {fl fh : FO W} {pos p2 : Pos} (he : DQ X R e te fe) (hl : DO X R lo tl fl) (hh : DO X R hi th fh) :
    DE X R (.Subscript e (.Slice lo hi none p2) pos) (tSl (fun x l h H Q => rSlA X.K x l h H Q ∨ rSlL X.K x l h H Q) te tl th) (eSlice fe fl fh) := ⟨pe_slice (SlR.or sl_tupA sl_list) he.pe hl.po hh.po, fun B η w σ F H S Q p => by
  refine he.rf B η w σ F H S _ (p.bind fun d w1 F1 H1 e1 k1 p v hv => ?_)
  have S1 := S.go e1 k1
  refine hl.rf B η w1 σ F1 H1 S1 _ (p.bind fun lo w2 F2 H2 e2 k2 p => ?_)
  have S2 := S1.go e2 k2
  refine hh.rf B η w2 σ F2 H2 S2 _ (p.bind fun hi w3 F3 H3 e3 k3 p => ?_)
  have hv3 := (hv.go e2).go e3
  split at p
  · obtain ⟨q, vs, rfl, hq', hq, hd⟩ := hv3.tup k3
    refine .inl ⟨q, vs, rfl, SqT.of hq, fun hw => ?_, fun _ => Post.tup k3 (hd.cut lo hi) p⟩
    rw [hd.len] at hw
    rw [cutL_whole _ hw] at p
    exact p.here k3 _ (.tup hq' hd)
  · obtain ⟨q, vs, rfl, hq, hd⟩ := hv3.lst k3
    exact .inr ⟨q, vs, rfl, SqL.of hq, Post.lst k3 (hd.cut lo hi) p⟩
  · exact p.elim⟩
end
end Cw

namespace Cw
open PySem PySem.Spec PyProof.Rows L2
section
variable {W : Type} {R : Rsc W} {F H F1 H1 : Hp} {w w1 : W} {X : Cx}

/-! ### calls of built-ins -/
structure CallD (X : Cx) (R : Rsc W) (f : Value) (r : List V → Hp → VK → Prop) (g : List D → Res D) : Prop where
  op : CallR X f r
  rf : ∀ {F H : Hp} {w : W} {vs : List V} {ds : List D} {Q : VK}, Wok R F H w → SqAll R F H vs ds → Post R F H (fun _ => False) (liftM (g ds) w) (PV Q) → r vs H Q
/-- .. that hand back a new object -/
structure CallN (X : Cx) (R : Rsc W) (f : Value) (r : List V → Hp → VK → Prop) (g : List D → Res D) : Prop where
  op : CallR X f r
  rf : ∀ {F H : Hp} {w : W} {vs : List V} {ds : List D} {Q : VK}, Wok R F H w → SqAll R F H vs ds → Post R F H (fun _ => False) (liftM (g ds) w) (PN H Q) → r vs H Q
def NoX1 (g : List D → Res D) : Prop := ∀ ds c, g ds ≠ .exc c
def eCall (g : List D → Res D) (fs : FA W) : FE W := fun η w => bindM (fs η w) fun ds w1 => liftM (g ds) w1
variable {r : List V → Hp → VK → Prop} {g : List D → Res D} {t : TA} {fs : FA W} {e : Expr} {es : List Expr} {p pos : Pos} {x : Str} {id T : String}
theorem ref_call {fv : Value} (c : CallD X R fv r g) (nx : NoX1 g) (h : RefB R t fs) : RefE R (tCB r t) (eCall g fs) := fun B η w σ F H S Q p =>
  h B η w σ F H S _ (p.bind fun ds w1 F1 H1 e k p vs hvs => c.rf k hvs (p.nox (nx ds)))
theorem ref_callN {fv : Value} (c : CallN X R fv r g) (nx : NoX1 g) (h : RefB R t fs) : RefN R (tCB r t) (eCall g fs) := fun B η w σ F H S Q p =>
  h B η w σ F H S _ (p.bind fun ds w1 F1 H1 e k p vs hvs => c.rf k hvs (Post.nox (nx ds) (PN_go (fun q => e.none S.wok k) p)))
theorem de_callB (c : CallD X R (.builtin id) r g) (nx : NoX1 g) (hg : Gl X x) (hm : X.mg x = none) (hv : bootBuiltins x = some (.builtin id)) (ha : DB X R (e :: es) t fs) (hn : x ≠ "__name__" := by decide) (hdb : (x == ("__debug__" : Str)) = false := by decide)
    (he : starEach (e :: es) X.env = (false, eval e X.env) :: starEach es X.env := by rfl) (hpl : (backTo pos (starEach es X.env)).any (·.1) = false := by rfl) : DE X R (.Call (.Name x p) (e :: es) [] pos) (tCB r t) (eCall g fs) := ⟨pe_callB c.op hg hm hv ha.pa hn hdb he hpl, ref_call c nx ha.rf⟩
theorem de_callTy (c : CallD X R (.type T) r g) (nx : NoX1 g) (hg : Gl X x) (hm : X.mg x = none) (hv : bootBuiltins x = some (.type T)) (ha : DB X R (e :: es) t fs) (hn : x ≠ "__name__" := by decide) (hdb : (x == ("__debug__" : Str)) = false := by decide)
    (he : starEach (e :: es) X.env = (false, eval e X.env) :: starEach es X.env := by rfl) (hpl : (backTo pos (starEach es X.env)).any (·.1) = false := by rfl) : DE X R (.Call (.Name x p) (e :: es) [] pos) (tCB r t) (eCall g fs) := ⟨pe_callTy c.op hg hm hv ha.pa hn hdb he hpl, ref_call c nx ha.rf⟩
theorem dn_callB (c : CallN X R (.builtin id) r g) (nx : NoX1 g) (hg : Gl X x) (hm : X.mg x = none) (hv : bootBuiltins x = some (.builtin id)) (ha : DB X R (e :: es) t fs) (hn : x ≠ "__name__" := by decide) (hdb : (x == ("__debug__" : Str)) = false := by decide)
    (he : starEach (e :: es) X.env = (false, eval e X.env) :: starEach es X.env := by rfl) (hpl : (backTo pos (starEach es X.env)).any (·.1) = false := by rfl) : DN X R (.Call (.Name x p) (e :: es) [] pos) (tCB r t) (eCall g fs) := ⟨pe_callB c.op hg hm hv ha.pa hn hdb he hpl, ref_callN c nx ha.rf⟩
theorem dn_callTy (c : CallN X R (.type T) r g) (nx : NoX1 g) (hg : Gl X x) (hm : X.mg x = none) (hv : bootBuiltins x = some (.type T)) (ha : DB X R (e :: es) t fs) (hn : x ≠ "__name__" := by decide) (hdb : (x == ("__debug__" : Str)) = false := by decide)
    (he : starEach (e :: es) X.env = (false, eval e X.env) :: starEach es X.env := by rfl) (hpl : (backTo pos (starEach es X.env)).any (·.1) = false := by rfl) : DN X R (.Call (.Name x p) (e :: es) [] pos) (tCB r t) (eCall g fs) := ⟨pe_callTy c.op hg hm hv ha.pa hn hdb he hpl, ref_callN c nx ha.rf⟩
theorem SqAll.one {vs : List V} {d : D} (h : SqAll R F H vs [d]) : ∃ v, vs = [v] ∧ Sq R F H v d := by
  cases h with
  | cons h t => cases t; exact ⟨_, rfl, h⟩
theorem SqAll.two {vs : List V} {d e : D} (h : SqAll R F H vs [d, e]) : ∃ v u, vs = [v, u] ∧ Sq R F H v d ∧ Sq R F H u e := by
  cases h with
  | cons h t =>
    obtain ⟨u, rfl, h'⟩ := t.one
    exact ⟨_, _, rfl, h, h'⟩
theorem Sq.dicK {v : V} {ds : List (D × D)} (k : Wok R F H w) (h : Sq R F H v (.dict ds)) : (∃ p kvs, v = .ref p ∧ Rd H p (.dK kvs) ∧ DnK F kvs ds) ∨ ∃ p kvs r, v = .ref p ∧ Rd H p (.dT kvs) ∧ ds = (.none, .none) :: r ∧ DnT F kvs r := by
  cases h with
  | fr h => cases h with
    | dK e h => exact .inl ⟨_, _, rfl, by rcases k.sub _ _ e with e | ⟨_, od, e⟩; exact .inl e; exact .inr ⟨od, e⟩, h⟩
    | dT e h => exact .inr ⟨_, _, _, rfl, by rcases k.sub _ _ e with e | ⟨_, od, e⟩; exact .inl e; exact .inr ⟨od, e⟩, rfl, h⟩
  | ow e o n => cases o with
    | dK h => exact .inl ⟨_, _, rfl, .inl e, h⟩
    | dT h => exact .inr ⟨_, _, _, rfl, .inl e, rfl, h⟩
theorem DnK.len : ∀ {vs : List (Key × V)} {ds : List (D × D)}, DnK F vs ds → vs.length = ds.length
  | _, _, .nil => rfl
  | _, _, .cons _ t => by simp [DnK.len t]
theorem DnT.len : ∀ {vs : List (List Key × V)} {ds : List (D × D)}, DnT F vs ds → vs.length = ds.length
  | _, _, .nil => rfl
  | _, _, .cons _ t => by simp [DnT.len t]

/-- len -/
def lenD : List D → Res D
  | [.list xs] => .ok (.int xs.length)
  | [.tuple xs] => .ok (.int xs.length)
  | _ => .stk
theorem c_len : CallD X R (.builtin "len") (fun xs H Q => ∃ p ys, xs = [.ref p] ∧ (SqL X.K H p ys ∨ SqT X.K H p ys) ∧ Q (.int ys.length) H) lenD := ⟨call_len_seq, by
  intro F H w vs ds Q k h p
  unfold lenD at p
  split at p
  · obtain ⟨v, rfl, hv⟩ := h.one
    obtain ⟨q, us, rfl, hq, hd⟩ := hv.lst k
    exact ⟨q, us, rfl, .inl (SqL.of hq), by rw [hd.len]; exact p.here k _ (.int _)⟩
  · obtain ⟨v, rfl, hv⟩ := h.one
    obtain ⟨q, us, rfl, _, hq, hd⟩ := hv.tup k
    exact ⟨q, us, rfl, .inr (SqT.of hq), by rw [hd.len]; exact p.here k _ (.int _)⟩
  · exact p.elim⟩
theorem nx_len : NoX1 lenD := by intro ds c; unfold lenD; split <;> simp
def absD : List D → Res D
  | [.int i] => .ok (.int (if i < 0 then -i else i))
  | _ => .stk
theorem c_abs : CallD X R (.builtin "abs") (fun xs H Q => ∃ i, xs = [.int i] ∧ Q (.int (if i < 0 then -i else i)) H) absD := ⟨call_abs, by
  intro F H w vs ds Q k h p
  unfold absD at p
  split at p
  · obtain ⟨v, rfl, hv⟩ := h.one
    exact ⟨_, by rw [hv.int], p.here k _ (.int _)⟩
  · exact p.elim⟩
theorem nx_abs : NoX1 absD := by intro ds c; unfold absD; split <;> simp
def intD : List D → Res D
  | [.int i] => .ok (.int i)
  | [.bool b] => .ok (.int (if b then 1 else 0))
  | _ => .stk
theorem c_int : CallD X R (.type "int") (fun xs H Q => (∃ i, xs = [.int i] ∧ Q (.int i) H) ∨ ∃ k, xs = [.bl k] ∧ Q (.int (if k then 1 else 0)) H) intD := ⟨call_int1, by
  intro F H w vs ds Q k h p
  unfold intD at p
  split at p
  · obtain ⟨v, rfl, hv⟩ := h.one
    exact .inl ⟨_, by rw [hv.int], p.here k _ (.int _)⟩
  · obtain ⟨v, rfl, hv⟩ := h.one
    exact .inr ⟨_, by rw [hv.bool], p.here k _ (.int _)⟩
  · exact p.elim⟩
theorem nx_int : NoX1 intD := by intro ds c; unfold intD; split <;> simp
def boolsOf : List D → Option (List Bool)
  | [] => some []
  | .bool b :: r => (boolsOf r).map (b :: ·)
  | _ :: _ => none
def intsOf : List D → Option (List Int)
  | [] => some []
  | .int b :: r => (intsOf r).map (b :: ·)
  | _ :: _ => none
theorem boolsOf_vals : ∀ {ds : List D} {bs : List Bool} {vs : List V}, boolsOf ds = some bs → DnL F vs ds → vs = bs.map V.bl
  | [], bs, vs, e, h => by cases e; cases h; rfl
  | .bool b :: r, bs, vs, e, h => by
    cases h with
    | cons h t =>
      cases h
      simp only [boolsOf, Option.map_eq_some_iff] at e
      obtain ⟨bs', e1, rfl⟩ := e
      rw [boolsOf_vals e1 t]; rfl
theorem intsOf_vals : ∀ {ds : List D} {bs : List Int} {vs : List V}, intsOf ds = some bs → DnL F vs ds → vs = bs.map V.int
  | [], bs, vs, e, h => by cases e; cases h; rfl
  | .int b :: r, bs, vs, e, h => by
    cases h with
    | cons h t =>
      cases h
      simp only [intsOf, Option.map_eq_some_iff] at e
      obtain ⟨bs', e1, rfl⟩ := e
      rw [intsOf_vals e1 t]; rfl
theorem dnl_ints : ∀ ns : List Int, DnL F (ns.map V.int) (ns.map PyData.int)
  | [] => .nil
  | n :: r => .cons (.int n) (dnl_ints r)
def allD : List D → Res D
  | [.list xs] => match boolsOf xs with
    | some bs => .ok (.bool (bs.all fun b => b))
    | none => .stk
  | _ => .stk
def anyD : List D → Res D
  | [.list xs] => match boolsOf xs with
    | some bs => .ok (.bool (bs.any fun b => b))
    | none => .stk
  | _ => .stk
theorem c_all (hc : X.calm = true) : CallD X R (.builtin "all") (rAll X.K) allD := ⟨cr_all hc, by
  intro F H w vs ds Q k h p
  unfold allD at p
  split at p
  · split at p
    · rename_i bs e
      obtain ⟨v, rfl, hv⟩ := h.one
      obtain ⟨q, us, rfl, hq, hd⟩ := hv.lst k
      exact ⟨q, bs, rfl, by rw [← boolsOf_vals e hd]; exact SqL.of hq, p.here k _ (.bl _)⟩
    · exact p.elim
  · exact p.elim⟩
theorem c_any (hc : X.calm = true) : CallD X R (.builtin "any") (rAny X.K) anyD := ⟨cr_any hc, by
  intro F H w vs ds Q k h p
  unfold anyD at p
  split at p
  · split at p
    · rename_i bs e
      obtain ⟨v, rfl, hv⟩ := h.one
      obtain ⟨q, us, rfl, hq, hd⟩ := hv.lst k
      exact ⟨q, bs, rfl, by rw [← boolsOf_vals e hd]; exact SqL.of hq, p.here k _ (.bl _)⟩
    · exact p.elim
  · exact p.elim⟩
theorem nx_all : NoX1 allD := by intro ds c; unfold allD; split <;> (try split) <;> simp
theorem nx_any : NoX1 anyD := by intro ds c; unfold anyD; split <;> (try split) <;> simp
/-- sum -/
def sumD : List D → Res D
  | [.list xs] => match intsOf xs with
    | some ns => .ok (.int ns.sum)
    | none => .stk
  | [.tuple xs] => match intsOf xs with
    | some ns => .ok (.int ns.sum)
    | none => .stk
  | _ => .stk
theorem nx_sum : NoX1 sumD := by intro ds c; unfold sumD; split <;> (try split) <;> simp
/-- max, min -/
def maxI (n : Int) (ns : List Int) : Int := ns.foldl (fun a b => if b > a then b else a) n
def minI (n : Int) (ns : List Int) : Int := ns.foldl (fun a b => if b < a then b else a) n
theorem maxI_mem : ∀ (ns : List Int) (n : Int), maxI n ns ∈ n :: ns
  | [], n => by simp [maxI]
  | k :: r, n => by
    have ih := maxI_mem r (if k > n then k else n)
    show maxI (if k > n then k else n) r ∈ n :: k :: r
    rcases List.mem_cons.mp ih with h | h
    · rw [h]; split <;> simp
    · exact List.mem_cons_of_mem _ (List.mem_cons_of_mem _ h)
theorem maxI_le : ∀ (ns : List Int) (n : Int), ∀ y ∈ n :: ns, y ≤ maxI n ns
  | [], n, y, h => by simp at h; subst h; exact Int.le_refl _
  | k :: r, n, y, h => by
    have ih := maxI_le r (if k > n then k else n)
    show y ≤ maxI (if k > n then k else n) r
    have h0 := ih _ List.mem_cons_self
    rcases List.mem_cons.mp h with rfl | h
    · revert h0; generalize maxI _ r = m; split <;> omega
    · rcases List.mem_cons.mp h with rfl | h
      · revert h0; generalize maxI _ r = m; split <;> omega
      · exact ih _ (List.mem_cons_of_mem _ h)
theorem minI_mem : ∀ (ns : List Int) (n : Int), minI n ns ∈ n :: ns
  | [], n => by simp [minI]
  | k :: r, n => by
    have ih := minI_mem r (if k < n then k else n)
    show minI (if k < n then k else n) r ∈ n :: k :: r
    rcases List.mem_cons.mp ih with h | h
    · rw [h]; split <;> simp
    · exact List.mem_cons_of_mem _ (List.mem_cons_of_mem _ h)
theorem minI_le : ∀ (ns : List Int) (n : Int), ∀ y ∈ n :: ns, minI n ns ≤ y
  | [], n, y, h => by simp at h; subst h; exact Int.le_refl _
  | k :: r, n, y, h => by
    have ih := minI_le r (if k < n then k else n)
    show minI (if k < n then k else n) r ≤ y
    have h0 := ih _ List.mem_cons_self
    rcases List.mem_cons.mp h with rfl | h
    · revert h0; generalize minI _ r = m; split <;> omega
    · rcases List.mem_cons.mp h with rfl | h
      · revert h0; generalize minI _ r = m; split <;> omega
      · exact ih _ (List.mem_cons_of_mem _ h)
def rMax2 : List V → Hp → VK → Prop := fun xs H Q => ∃ i j, xs = [.int i, .int j] ∧ Q (.int (if j > i then j else i)) H
def rMin2 : List V → Hp → VK → Prop := fun xs H Q => ∃ i j, xs = [.int i, .int j] ∧ Q (.int (if j < i then j else i)) H
def maxD1 : List D → Res D
  | [.int i, .int j] => .ok (.int (if j > i then j else i))
  | [.list xs] => match intsOf xs with
    | some (n :: ns) => .ok (.int (maxI n ns))
    | _ => .stk
  | _ => .stk
def minD1 : List D → Res D
  | [.int i, .int j] => .ok (.int (if j < i then j else i))
  | [.list xs] => match intsOf xs with
    | some (n :: ns) => .ok (.int (minI n ns))
    | _ => .stk
  | _ => .stk
theorem nx_max1 : NoX1 maxD1 := by intro ds c; unfold maxD1; split <;> (try split) <;> simp
theorem nx_min1 : NoX1 minD1 := by intro ds c; unfold minD1; split <;> (try split) <;> simp
theorem c_max1 (hc : X.calm = true) : CallD X R (.builtin "max") (fun xs H Q => rMax2 xs H Q ∨ rMax X.K xs H Q) maxD1 := ⟨CallR.or (call_max2 hc) (cr_max hc), by
  intro F H w vs ds Q k h p
  unfold maxD1 at p
  split at p
  · obtain ⟨v, u, rfl, hv, hu⟩ := h.two
    exact .inl ⟨_, _, by rw [hv.int, hu.int], p.here k _ (.int _)⟩
  · split at p
    · rename_i n ns e
      obtain ⟨v, rfl, hv⟩ := h.one
      obtain ⟨q, us, rfl, hq, hd⟩ := hv.lst k
      refine .inr ⟨q, n :: ns, rfl, by rw [← intsOf_vals e hd]; exact SqL.of hq, by simp, fun m hm hb => ?_⟩
      have e2 : m = maxI n ns := Int.le_antisymm (maxI_le _ _ _ hm) (hb _ (maxI_mem _ _))
      rw [e2]; exact p.here k _ (.int _)
    · exact p.elim
  · exact p.elim⟩
theorem c_min1 (hc : X.calm = true) : CallD X R (.builtin "min") (fun xs H Q => rMin2 xs H Q ∨ rMin X.K xs H Q) minD1 := ⟨CallR.or (call_min2 hc) (cr_min hc), by
  intro F H w vs ds Q k h p
  unfold minD1 at p
  split at p
  · obtain ⟨v, u, rfl, hv, hu⟩ := h.two
    exact .inl ⟨_, _, by rw [hv.int, hu.int], p.here k _ (.int _)⟩
  · split at p
    · rename_i n ns e
      obtain ⟨v, rfl, hv⟩ := h.one
      obtain ⟨q, us, rfl, hq, hd⟩ := hv.lst k
      refine .inr ⟨q, n :: ns, rfl, by rw [← intsOf_vals e hd]; exact SqL.of hq, by simp, fun m hm hb => ?_⟩
      have e2 : m = minI n ns := Int.le_antisymm (hb _ (minI_mem _ _)) (minI_le _ _ _ hm)
      rw [e2]; exact p.here k _ (.int _)
    · exact p.elim
  · exact p.elim⟩
/-- sorted of fewer than 64 ints (a list) -/
def insI (n : Int) : List Int → List Int
  | [] => [n]
  | k :: r => match decide (n ≤ k) with
    | true => n :: k :: r
    | false => k :: insI n r
def sortI : List Int → List Int
  | [] => []
  | n :: r => insI n (sortI r)
theorem insI_perm (n : Int) : ∀ ns : List Int, (insI n ns).Perm (n :: ns)
  | [] => .refl _
  | k :: r => by
    unfold insI
    split
    · exact .refl _
    · exact ((insI_perm n r).cons k).trans (.swap _ _ _)
theorem sortI_perm : ∀ ns : List Int, (sortI ns).Perm ns
  | [] => .refl _
  | n :: r => (insI_perm n _).trans ((sortI_perm r).cons n)
theorem insI_sorted (n : Int) : ∀ ns : List Int, ns.Pairwise (· ≤ ·) → (insI n ns).Pairwise (· ≤ ·)
  | [], _ => by simp [insI]
  | k :: r, h => by
    unfold insI
    have h' := List.pairwise_cons.mp h
    split
    · rename_i e
      have e' := of_decide_eq_true e
      exact List.pairwise_cons.mpr ⟨fun a ha => by
        rcases List.mem_cons.mp ha with rfl | ha
        · exact e'
        · exact Int.le_trans e' (h'.1 a ha), h⟩
    · rename_i e
      have e' := of_decide_eq_false e
      refine List.pairwise_cons.mpr ⟨fun a ha => ?_, insI_sorted n r h'.2⟩
      rcases List.mem_cons.mp ((insI_perm n r).mem_iff.mp ha) with rfl | ha
      · omega
      · exact h'.1 a ha
theorem sortI_sorted : ∀ ns : List Int, (sortI ns).Pairwise (· ≤ ·)
  | [] => .nil
  | n :: r => insI_sorted n _ (sortI_sorted r)
def sortedD1 : List D → Res D
  | [.list xs] => match intsOf xs with
    | some ns => match Nat.blt ns.length 64 with
      | true => .ok (.list ((sortI ns).map PyData.int))
      | false => .stk
    | none => .stk
  | _ => .stk
theorem nx_sorted1 : NoX1 sortedD1 := by intro ds c; unfold sortedD1; split <;> (try split) <;> (try split) <;> simp
theorem c_sorted1 : CallN X R (.builtin "sorted") (rSorted X.K) sortedD1 := ⟨cr_sorted, by
  intro F H w vs ds Q k h p
  unfold sortedD1 at p
  split at p
  · split at p
    · split at p
      · rename_i ns e _ hl
        obtain ⟨v, rfl, hv⟩ := h.one
        obtain ⟨q, us, rfl, hq, hd⟩ := hv.lst k
        refine ⟨q, ns, rfl, by rw [← intsOf_vals e hd]; exact SqL.of hq, Nat.le_of_ble_eq_true hl, fun ns' p' hp hs hn => ?_⟩
        have e2 : ns' = sortI ns := PySem.W.ksm_same (hp.trans (sortI_perm ns).symm) hs (sortI_sorted ns)
        rw [e2]
        exact Post.lstN k (dnl_ints _) p p' hn
      · exact p.elim
    · exact p.elim
  · exact p.elim⟩
/-- list(x), tuple(x) -/
def listD : List D → Res D
  | [.list xs] => .ok (.list xs)
  | [.tuple xs] => .ok (.list xs)
  | _ => .stk
theorem nx_list : NoX1 listD := by intro ds c; unfold listD; split <;> simp
theorem c_list : CallN X R (.type "list") (fun xs H Q => ∃ p ys, xs = [.ref p] ∧ (SqL X.K H p ys ∨ SqT X.K H p ys) ∧ ∀ l, H l = none → Q (.ref l) (upd H l (.lst ys))) listD := ⟨call_list_of, by
  intro F H w vs ds Q k h p
  unfold listD at p
  split at p
  · obtain ⟨v, rfl, hv⟩ := h.one
    obtain ⟨q, us, rfl, hq, hd⟩ := hv.lst k
    exact ⟨q, us, rfl, .inl (SqL.of hq), Post.lstN k hd p⟩
  · obtain ⟨v, rfl, hv⟩ := h.one
    obtain ⟨q, us, rfl, _, hq, hd⟩ := hv.tup k
    exact ⟨q, us, rfl, .inr (SqT.of hq), Post.lstN k hd p⟩
  · exact p.elim⟩
def tupleD : List D → Res D
  | [.list xs] => .ok (.tuple xs)
  | [.tuple xs] => .ok (.tuple xs)
  | _ => .stk
theorem nx_tuple : NoX1 tupleD := by intro ds c; unfold tupleD; split <;> simp
theorem c_tuple : CallD X R (.type "tuple") (fun xs H Q => ∃ p ys, xs = [.ref p] ∧ ((SqL X.K H p ys ∧ ∀ l, H l = none → Q (.ref l) (upd H l (.tup ys))) ∨ (SqT X.K H p ys ∧ Q (.ref p) H))) tupleD := ⟨call_tuple_of, by
  intro F H w vs ds Q k h p
  unfold tupleD at p
  split at p
  · obtain ⟨v, rfl, hv⟩ := h.one
    obtain ⟨q, us, rfl, hq, hd⟩ := hv.lst k
    exact ⟨q, us, rfl, .inl ⟨SqL.of hq, Post.tup k hd p⟩⟩
  · obtain ⟨v, rfl, hv⟩ := h.one
    obtain ⟨q, us, rfl, hq', hq, hd⟩ := hv.tup k
    exact ⟨q, us, rfl, .inr ⟨SqT.of hq, p.here k _ (.tup hq' hd)⟩⟩
  · exact p.elim⟩
/-- list(range(..)), tuple(range(..)) -/
def rgD (a b : Int) : List D := (List.range (b - a).toNat).map fun i => PyData.int (a + (i : Nat))
theorem dnl_rg (a b : Int) : DnL F (rgV a b) (rgD a b) := by
  unfold rgV rgD
  generalize (b - a).toNat = n
  generalize List.range n = l
  induction l with
  | nil => exact .nil
  | cons i r ih => exact .cons (.int _) ih
def rgOk (a b : Int) : Bool := decide (0 ≤ a) && decide (b ≤ 1000000) && decide (a ≤ 1000000) && decide (0 ≤ b)
theorem rgOk_ok {a b : Int} (h : rgOk a b = true) : RgOk a b := by
  unfold rgOk at h
  simp only [Bool.and_eq_true, decide_eq_true_eq] at h
  exact RgOk.of_le h.1.1.1 (by omega) (by omega) h.2
/-- the bounds of a range -/
structure DRg (X : Cx) (R : Rsc W) (e : Expr) (t : L2.St → Hp → (Int → Int → Hp → Prop) → Prop) (f : EnvD → W → Res ((Int × Int) × W)) : Prop where
  pr : PRg X e t
  rf : ∀ (B : Bs) (η : EnvD) (w : W) (σ : L2.St) (F H : Hp), StOk R B η w σ F H → ∀ Q : Int → Int → Hp → Prop, Post R F H B.X (f η w) (fun p F' H' => Q p.1 p.2 H') → t σ H Q
def g1 (fa : FE W) : EnvD → W → Res ((Int × Int) × W) := fun η w => bindM (fa η w) fun d w1 => match d with
  | .int n => .ok ((0, n), w1)
  | _ => .stk
def g2 (fa fb : FE W) : EnvD → W → Res ((Int × Int) × W) := fun η w => bindM (fa η w) fun d w1 => bindM (fb η w1) fun e w2 => match d, e with
  | .int n, .int m => .ok ((n, m), w2)
  | _, _ => .stk
variable {a b : Expr} {ta tb : TE} {fa fb : FE W}
theorem dr_1 (hg : Gl X "range") (hm : X.mg "range" = none) (ha : DQ X R a ta fa) (na : starEach [a] X.env = (false, eval a X.env) :: starEach [] X.env := by rfl) : DRg X R (.Call (.Name "range" p) [a] [] pos) (tRg1 ta) (g1 fa) := ⟨prg_1 hg hm ha.pe na, fun B η w σ F H S Q p =>
  ha.rf B η w σ F H S _ (p.bind fun d w1 F1 H1 e k p v hv => by
    cases d with
    | int n => exact ⟨n, hv.int, p.here k⟩
    | _ => exact p.elim)⟩
theorem dr_2 (hg : Gl X "range") (hm : X.mg "range" = none) (ha : DQ X R a ta fa) (hb : DQ X R b tb fb) (na : starEach [a, b] X.env = (false, eval a X.env) :: starEach [b] X.env := by rfl) (nb : starEach [b] X.env = (false, eval b X.env) :: starEach [] X.env := by rfl) (hp : (backTo pos (starEach [b] X.env)).any (·.1) = false := by rfl) : DRg X R (.Call (.Name "range" p) [a, b] [] pos) (tRg2 ta tb) (g2 fa fb) := ⟨prg_2 hg hm ha.pe hb.pe na nb hp, fun B η w σ F H S Q p =>
  ha.rf B η w σ F H S _ (p.bind fun d w1 F1 H1 e k p v hv => hb.rf B η w1 σ F1 H1 (S.go e k) _ (p.bind fun d2 w2 F2 H2 e2 k2 p u hu => by
    cases d with
    | int n => cases d2 with
      | int m => exact ⟨n, m, hv.int, hu.int, p.here k2⟩
      | _ => exact p.elim
    | _ => exact p.elim))⟩
def eRgL (f : EnvD → W → Res ((Int × Int) × W)) : FE W := fun η w => bindM (f η w) fun p w1 => match rgOk p.1 p.2 with
  | true => .ok (.list (rgD p.1 p.2), w1)
  | false => .stk
def eRgT (f : EnvD → W → Res ((Int × Int) × W)) : FE W := fun η w => bindM (f η w) fun p w1 => match rgOk p.1 p.2 with
  | true => .ok (.tuple (rgD p.1 p.2), w1)
  | false => .stk
variable {te : L2.St → Hp → (Int → Int → Hp → Prop) → Prop} {fr : EnvD → W → Res ((Int × Int) × W)}
theorem dn_listRg (hc : X.calm = true) (hg : Gl X "list") (hm : X.mg "list" = none) (he : DRg X R e te fr) (na : starEach [e] X.env = (false, eval e X.env) :: starEach [] X.env := by rfl) : DN X R (.Call (.Name "list" p) [e] [] pos) (tLstRg te) (eRgL fr) := ⟨pe_listRg hc hg hm he.pr na, fun B η w σ F H S Q p =>
  he.rf B η w σ F H S _ (p.bind fun ab w1 F1 H1 e k p => by
    split at p
    · rename_i h
      exact ⟨rgOk_ok h, Post.lstN k (dnl_rg _ _) (PN_go (fun q => e.none S.wok k) p)⟩
    · exact p.elim)⟩
theorem de_tupRg (hc : X.calm = true) (hg : Gl X "tuple") (hm : X.mg "tuple" = none) (he : DRg X R e te fr) (na : starEach [e] X.env = (false, eval e X.env) :: starEach [] X.env := by rfl) : DE X R (.Call (.Name "tuple" p) [e] [] pos) (tTupRg te) (eRgT fr) := ⟨pe_tupRg hc hg hm he.pr na, fun B η w σ F H S Q p =>
  he.rf B η w σ F H S _ (p.bind fun ab w1 F1 H1 e k p => by
    split at p
    · rename_i h
      exact ⟨rgOk_ok h, Post.tup k (dnl_rg _ _) p⟩
    · exact p.elim)⟩
/-! ### isinstance(x, T), T a built-in type -/
def tyD : D → String
  | .none => "NoneType"
  | .bool _ => "bool"
  | .int _ => "int"
  | .str _ => "str"
  | .list _ => "list"
  | .tuple _ => "tuple"
  | .dict _ => "dict"
def isiD (T : String) (d : D) : Res D := match kitB (tyD d) T with
  | some b => .ok (.bool b)
  | none => .stk
theorem Sq.ty {K : PySem.W.Frag} (k : Wok R F H w) {v : V} {d : D} (h : Sq R F H v d) : TyX K H v (.type (tyD d)) ∨ ∃ a o kvs, v = .ref a ∧ H a = some (.frz o (.dT kvs)) := by
  cases h with
  | fr h => cases h with
    | non => exact .inl (.base .non)
    | bl b => exact .inl (.base (.bl b))
    | int i => exact .inl (.base (.int i))
    | str x => exact .inl (.base (.str x))
    | lst e h => exact .inl (.base (.lst (k.at e id)))
    | tup e h => exact .inl (.base (.tup (k.at e id)))
    | dK e h => rcases k.sub _ _ e with e | ⟨_, od, e⟩; exact .inl (.base (.dK e)); exact .inl (.fDict e)
    | dT e h => rcases k.sub _ _ e with e | ⟨_, od, e⟩; exact .inl (.base (.dT e)); exact .inr ⟨_, _, _, rfl, e⟩
  | ow e o n => cases o with
    | lst h => exact .inl (.base (.lst e))
    | dK h => exact .inl (.base (.dK e))
    | dT h => exact .inl (.base (.dT e))
def tIsi (K : PySem.W.Frag) (T : String) (ta : TE) : TE := tCB (rIsi K) (tCons ta (tCons (tC (.ty T)) tNil))
/-- a dict with tuple keys is not asked -/
def isiD' (T : String) (d : D) : Res D := match d with
  | .dict _ => .stk
  | d => isiD T d
theorem Sq.ty' {K : PySem.W.Frag} (k : Wok R F H w) {v : V} {d : D} (h : Sq R F H v d) (nd : ∀ x, d ≠ .dict x) : TyX K H v (.type (tyD d)) := by
  cases h with
  | fr h => cases h with
    | non => exact (.base .non)
    | bl b => exact (.base (.bl b))
    | int i => exact (.base (.int i))
    | str x => exact (.base (.str x))
    | lst e h => exact (.base (.lst (k.at e id)))
    | tup e h => exact (.base (.tup (k.at e id)))
    | dK e h => exact (nd _ rfl).elim
    | dT e h => exact (nd _ rfl).elim
  | ow e o n => cases o with
    | lst h => exact (.base (.lst e))
    | dK h => exact (.base (.dK e))
    | dT h => exact (.base (.dT e))
theorem de_isi {T : String} {x2 : Str} {p2 : Pos} (hg : Gl X "isinstance") (hm : X.mg "isinstance" = none) (hb : bootBuiltins "isinstance" = some (.builtin "isinstance")) (hg2 : Gl X x2) (hm2 : X.mg x2 = none) (hb2 : bootBuiltins x2 = some (.type T)) (ha : DQ X R a ta fa)
    (hn2 : x2 ≠ "__name__" := by decide) (hd2 : (x2 == ("__debug__" : Str)) = false := by decide) (s1 : starEach [a, .Name x2 p2] X.env = (false, eval a X.env) :: starEach [.Name x2 p2] X.env := by rfl) (s2 : starEach [.Name x2 p2] X.env = (false, eval (.Name x2 p2) X.env) :: starEach [] X.env := by rfl)
    (hpl : (backTo pos (starEach [.Name x2 p2] X.env)).any (·.1) = false := by rfl) : DE X R (.Call (.Name "isinstance" p) [a, .Name x2 p2] [] pos) (tIsi X.K T ta) (e1 (isiD' T) fa) :=
  ⟨pe_callB call_isi hg hm hb (pa_cons ha.pe (pa_cons (pe_bltn (v := .ty T) hg2 hm2 hb2 rfl hn2 hd2) pa_nil s2) s1) (by decide) (by decide) s1 hpl, fun B η w σ F H S Q p =>
    ha.rf B η w σ F H S _ (p.bind fun d w1 F1 H1 e k p v hv => by
      unfold isiD' at p
      split at p
      · exact p.elim
      · rename_i nd
        unfold isiD at p
        split at p
        · rename_i b hb
          exact ⟨v, .ty T, _, _, b, rfl, .ty T, hv.ty' k nd, kit_ty hb, p.here k _ (.bl _)⟩
        · exact p.elim)⟩
end
end Cw

namespace Cw
open PySem PySem.Spec PyProof.Rows L2
section
variable {W : Type} {R : Rsc W} {F H F1 H1 : Hp} {w w1 : W} {X : Cx}

/-! ### what is walked -/
def ItW (R : Rsc W) (F1 : Hp) (G : Hp → Prop) (J : It) (ds : List D) : Prop := ∀ (F H : Hp) (w : W), Sub F1 F → G H → Wok R F H w →
  (∀ (i : Nat) d, ds[i]? = some d → J.go i H ∧ ∀ x H', J.yld i H x H' → ∃ F', Ext R F H F' H' ∧ Wok R F' H' w ∧ Dn F' x d) ∧ ∀ i : Nat, ds.length ≤ i → J.stop i H
def Stay (R : Rsc W) (F1 H1 : Hp) : Hp → Prop := fun H2 => ∀ a o, ¬ R.foot a → F1 a = none ∨ IsFrz o → H1 a = some o → H2 a = some o
abbrev FI (W : Type) := EnvD → W → Res (List D × W)
structure DI (X : Cx) (R : Rsc W) (tg iter : Expr) (wi : TI) (f : FI W) : Prop where
  pi : PI X tg iter wi
  rf : ∀ (B : Bs) (η : EnvD) (w : W) (σ : L2.St) (F H : Hp), StOk R B η w σ F H → ∀ Rr : It → Hp → Prop, Post R F H B.X (f η w) (fun ds F' H' => ds.length ≤ 1000000 → ∀ J, ItW R F' (fun _ => True) J ds → Rr J H') → wi σ H Rr
/-- .. while nothing is changed -/
structure DJ (X : Cx) (R : Rsc W) (tg iter : Expr) (wi : TI) (f : FI W) : Prop where
  pi : PI X tg iter wi
  rf : ∀ (B : Bs) (η : EnvD) (w : W) (σ : L2.St) (F H : Hp), StOk R B η w σ F H → ∀ Rr : It → Hp → Prop, Post R F H B.X (f η w) (fun ds F' H' => ds.length ≤ 1000000 → ∀ J, ItW R F' (Stay R F' H') J ds → Rr J H') → wi σ H Rr
theorem ItW.weak {G G' : Hp → Prop} {J : It} {ds : List D} (h : ItW R F1 G J ds) (i : ∀ H, G' H → G H) : ItW R F1 G' J ds := fun F H w s g k => h F H w s (i H g) k
theorem DI.j {tg iter : Expr} {wi : TI} {f : FI W} (h : DI X R tg iter wi f) : DJ X R tg iter wi f := ⟨h.pi, fun B η w σ F H S Rr p => h.rf B η w σ F H S Rr (p.imp fun ds w' F' H' _ _ _ q hl J hJ => q hl J (hJ.weak fun _ _ => trivial))⟩
theorem pi_or {tg iter : Expr} {a b : TI} (h : PI X tg iter a) (h' : PI X tg iter b) : PI X tg iter (fun σ H Rr => a σ H Rr ∨ b σ H Rr) := ⟨fun pins s σ H Rr I q => q.elim (h.run pins s σ H Rr I) (h'.run pins s σ H Rr I)⟩
def chk (ds : List D) (w : W) : Res (List D × W) := match okLen ds.length with
  | true => .ok (ds, w)
  | false => .stk
def iSeq (f : FE W) : FI W := fun η w => bindM (f η w) fun d w1 => match d with
  | .list xs => chk xs w1
  | .tuple xs => chk xs w1
  | _ => .stk
theorem chk_ok {P : List D → Hp → Hp → Prop} {Xc : String → Prop} {ds : List D} (p : Post R F H Xc (chk ds w) P) : ds.length ≤ 1000000 ∧ Post R F H Xc (.ok (ds, w)) P := by
  unfold chk at p
  split at p
  · rename_i h
    exact ⟨okLen_le h, p⟩
  · exact p.elim
theorem itw_list {K : PySem.W.Frag} {a : Addr} {vs : List V} {ds : List D} {G : Hp → Prop} (hd : DnL F1 vs ds) (h : ∀ (F H : Hp) (w : W), Sub F1 F → G H → Wok R F H w → SqL K H a vs) : ItW R F1 G (Itl K a) ds := fun F H w s g k => by
  have q := h F H w s g k
  refine ⟨fun i d e => ?_, fun i hi => ⟨vs, q, by rw [hd.len]; exact hi⟩⟩
  obtain ⟨v, h1, h2⟩ := hd.get i e
  refine ⟨⟨vs, v, q, h1⟩, fun x H' hy => ?_⟩
  obtain ⟨rfl, f⟩ := hy
  have ex : v = x := Option.some.inj (h1.symm.trans (f _ q))
  subst ex
  exact ⟨F, .refl, k, h2.mono s⟩
theorem itw_tup {K : PySem.W.Frag} {a : Addr} {vs : List V} {ds : List D} {G : Hp → Prop} (hd : DnL F1 vs ds) (h : ∀ (F H : Hp) (w : W), Sub F1 F → G H → Wok R F H w → SqT K H a vs) : ItW R F1 G (Itt K a) ds := fun F H w s g k => by
  have q := h F H w s g k
  refine ⟨fun i d e => ?_, fun i hi => ⟨vs, q, by rw [hd.len]; exact hi⟩⟩
  obtain ⟨v, h1, h2⟩ := hd.get i e
  refine ⟨⟨vs, v, q, h1⟩, fun x H' hy => ?_⟩
  obtain ⟨rfl, f⟩ := hy
  have ex : v = x := Option.some.inj (h1.symm.trans (f _ q))
  subst ex
  exact ⟨F, .refl, k, h2.mono s⟩
variable {tg iter e a b : Expr} {te ta tb : TE} {fe fa fb : FE W} {p pos : Pos}
def iSeqT (K : PySem.W.Frag) (te : TE) : TI := fun σ H Rr => iList K te σ H Rr ∨ iTup K te σ H Rr
theorem di_seq (h : DE X R e te fe) : DI X R tg e (iSeqT X.K te) (iSeq fe) := ⟨pi_or (pi_list h.pe) (pi_tup h.pe), fun B η w σ F H S Rr p => by
  unfold iSeq at p
  have key := h.rf B η w σ F H S
  revert p key
  generalize fe η w = r
  intro p key
  match r, p with
  | .ok (.list xs, w1), p =>
    obtain ⟨hl, p⟩ := chk_ok p
    refine .inl (key _ fun F' H' e k v hv => ?_)
    cases hv with
    | lst hf hd => exact ⟨_, rfl, ⟨_, SqL.of (k.at hf id)⟩, p F' H' e k hl _ (itw_list hd fun F2 H2 w2 s _ k2 => SqL.of (k2.at (s _ _ hf) id))⟩
  | .ok (.tuple xs, w1), p =>
    obtain ⟨hl, p⟩ := chk_ok p
    refine .inr (key _ fun F' H' e k v hv => ?_)
    cases hv with
    | tup hf hd => exact ⟨_, rfl, ⟨_, SqT.of (k.at hf id)⟩, p F' H' e k hl _ (itw_tup hd fun F2 H2 w2 s _ k2 => SqT.of (k2.at (s _ _ hf) id))⟩
  | .ok (.none, w1), p => exact p.elim
  | .ok (.bool _, w1), p => exact p.elim
  | .ok (.int _, w1), p => exact p.elim
  | .ok (.str _, w1), p => exact p.elim
  | .ok (.dict _, w1), p => exact p.elim
  | .exc c, p => exact .inl (key _ p)
  | .stk, p => exact p.elim⟩
/-- a list of a slot, while nothing is changed -/
theorem dj_seq (h : DQ X R e te fe) : DJ X R tg e (iSeqT X.K te) (iSeq fe) := ⟨pi_or (pi_list h.pe) (pi_tup h.pe), fun B η w σ F H S Rr p => by
  unfold iSeq at p
  have key := h.rf B η w σ F H S
  revert p key
  generalize fe η w = r
  intro p key
  match r, p with
  | .ok (.list xs, w1), p =>
    obtain ⟨hl, p⟩ := chk_ok p
    refine .inl (key _ fun F' H' e k v hv => ?_)
    cases hv with
    | fr hv => cases hv with
      | lst hf hd => exact ⟨_, rfl, ⟨_, SqL.of (k.at hf id)⟩, p F' H' e k hl _ (itw_list hd fun F2 H2 w2 s _ k2 => SqL.of (k2.at (s _ _ hf) id))⟩
    | ow hh ho hn => cases ho with
      | lst hd => exact ⟨_, rfl, ⟨_, SqL.of hh⟩, p F' H' e k hl _ (itw_list hd fun F2 H2 w2 s st k2 => SqL.of (st _ _ hn.1 (.inl hn.2) hh))⟩
  | .ok (.tuple xs, w1), p =>
    obtain ⟨hl, p⟩ := chk_ok p
    refine .inr (key _ fun F' H' e k v hv => ?_)
    obtain ⟨q, vs, rfl, hf, hh, hd⟩ := hv.tup k
    exact ⟨_, rfl, ⟨_, SqT.of hh⟩, p F' H' e k hl _ (itw_tup hd fun F2 H2 w2 s _ k2 => SqT.of (k2.at (s _ _ hf) id))⟩
  | .ok (.none, w1), p => exact p.elim
  | .ok (.bool _, w1), p => exact p.elim
  | .ok (.int _, w1), p => exact p.elim
  | .ok (.str _, w1), p => exact p.elim
  | .ok (.dict _, w1), p => exact p.elim
  | .exc c, p => exact .inl (key _ p)
  | .stk, p => exact p.elim⟩
/-- range -/
theorem rgD_length (a b : Int) : (rgD a b).length = (b - a).toNat := by simp [rgD]
theorem rgD_get {a b : Int} {i : Nat} {d : D} (h : (rgD a b)[i]? = some d) : i < (b - a).toNat ∧ d = .int (a + (i : Nat)) := by
  unfold rgD at h
  rw [List.getElem?_map] at h
  cases z : (List.range (b - a).toNat)[i]? with
  | none => rw [z] at h; cases h
  | some j =>
    rw [z] at h
    obtain ⟨h1, h2⟩ := List.getElem?_eq_some_iff.mp z
    simp at h1 h2
    subst h2
    exact ⟨by omega, (Option.some.inj h).symm⟩
theorem itw_rng {a b : Int} {n : Nat} (hn : (b - a).toNat = n) : ItW R F1 (fun _ => True) (Itr a n) (rgD a b) := fun F H w s g k => by
  subst hn
  refine ⟨fun i d e => ?_, fun i hi => by rw [rgD_length] at hi; exact hi⟩
  obtain ⟨h1, rfl⟩ := rgD_get e
  exact ⟨h1, fun x H' hy => by obtain ⟨rfl, rfl⟩ := hy; exact ⟨F, .refl, k, .int _⟩⟩
def iRg1 (fs : FA W) : FI W := fun η w => bindM (fs η w) fun ds w1 => match ds with
  | [.int j] => match decide (j ≤ 1000000) && decide (-1000000 ≤ j) with
    | true => .ok (rgD 0 j, w1)
    | false => .stk
  | _ => .stk
def iRg2 (fs : FA W) : FI W := fun η w => bindM (fs η w) fun ds w1 => match ds with
  | [.int i, .int j] => match decide (j ≤ 500000) && decide (-500000 ≤ j) && decide (-500000 ≤ i) && decide (i ≤ 500000) with
    | true => .ok (rgD i j, w1)
    | false => .stk
  | _ => .stk
variable {tA : TA} {fs : FA W}
theorem di_range1 (hg : Gl X "range") (hm : X.mg "range" = none) (ha : DB X R [a] tA fs) (hs : starEach [a] X.env = [(false, eval a X.env)] := by rfl) : DI X R tg (.Call (.Name "range" p) [a] [] pos) (iRng1 tA) (iRg1 fs) := ⟨pi_range1 hg hm ha.pa hs, fun B η w σ F H S Rr p =>
  ha.rf B η w σ F H S _ (p.bind fun ds w1 F1 H1 e k p vs hvs => by
    split at p
    · split at p
      · rename_i j _ h
        simp only [Bool.and_eq_true, decide_eq_true_eq] at h
        obtain ⟨v, rfl, hv⟩ := hvs.one
        exact ⟨j, by rw [hv.int], by omega, by omega, p.here k (by rw [rgD_length]; omega) _ (itw_rng (by omega))⟩
      · exact p.elim
    · exact p.elim)⟩
theorem di_range2 (hg : Gl X "range") (hm : X.mg "range" = none) (ha : DB X R [a, b] tA fs) (hs : starEach [a, b] X.env = [(false, eval a X.env), (false, eval b X.env)] := by rfl) (hs2 : starEach [b] X.env = [(false, eval b X.env)] := by rfl) : DI X R tg (.Call (.Name "range" p) [a, b] [] pos) (iRng2 tA) (iRg2 fs) := ⟨pi_range2 hg hm ha.pa hs hs2, fun B η w σ F H S Rr p =>
  ha.rf B η w σ F H S _ (p.bind fun ds w1 F1 H1 e k p vs hvs => by
    split at p
    · split at p
      · rename_i i j _ h
        simp only [Bool.and_eq_true, decide_eq_true_eq] at h
        obtain ⟨v, u, rfl, hv, hu⟩ := hvs.two
        exact ⟨i, j, by rw [hv.int, hu.int], ⟨by omega, by omega, by omega, by omega⟩, p.here k (by rw [rgD_length]; omega) _ (itw_rng rfl)⟩
      · exact p.elim
    · exact p.elim)⟩
/-- enumerate of a list -/
def enumL : Int → List D → List D
  | _, [] => []
  | i, d :: r => .tuple [.int i, d] :: enumL (i + 1) r
theorem enumL_len : ∀ (ds : List D) (i : Int), (enumL i ds).length = ds.length
  | [], _ => rfl
  | _ :: r, i => by simp [enumL, enumL_len r]
theorem enumL_get : ∀ (ds : List D) (i : Int) (j : Nat) (x : D), (enumL i ds)[j]? = some x → ∃ d, ds[j]? = some d ∧ x = .tuple [.int (i + (j : Nat)), d]
  | [], _, _, _, h => by simp [enumL] at h
  | d :: r, i, 0, x, h => by
    simp [enumL] at h
    exact ⟨d, rfl, by rw [← h]; simp⟩
  | d :: r, i, j + 1, x, h => by
    obtain ⟨d', h1, h2⟩ := enumL_get r (i + 1) j x (by simpa [enumL] using h)
    exact ⟨d', by simpa using h1, by rw [h2, show (i + 1 + ((j : Nat) : Int)) = i + ((j + 1 : Nat) : Int) by omega]⟩
/-- a pair in each turn -/
theorem Dn.pair {T : Addr} {x y : V} {c d : D} (n : F T = none) (hx : Dn F x c) (hy : Dn F y d) : Dn (upd F T (.tup [x, y])) (.ref T) (.tuple [c, d]) :=
  have m : Sub F (upd F T (.tup [x, y])) := fun a u h => by rw [upd_ne (ne_of_none h n)]; exact h
  .tup upd_same (.cons (hx.mono m) (.cons (hy.mono m) .nil))
theorem itw_enum {K : PySem.W.Frag} {a : Addr} {vs : List V} {ds : List D} {G : Hp → Prop} (hd : DnL F1 vs ds) (h : ∀ (F H : Hp) (w : W), Sub F1 F → G H → Wok R F H w → SqL K H a vs) : ItW R F1 G (Ite K a) (enumL 0 ds) := fun F H w s g k => by
  have q := h F H w s g k
  refine ⟨fun i d e => ?_, fun i hi => ⟨vs, q, by rw [hd.len, ← enumL_len ds 0]; exact hi⟩⟩
  obtain ⟨d', e1, rfl⟩ := enumL_get _ _ _ _ e
  obtain ⟨v, h1, h2⟩ := hd.get i e1
  refine ⟨⟨vs, v, q, h1⟩, fun x H' hy => ?_⟩
  obtain ⟨T, x', rfl, hT, rfl, f⟩ := hy
  have ex : v = x' := Option.some.inj (h1.symm.trans (f _ q))
  subst ex
  refine ⟨_, Ext.new k hT, k.new hT, ?_⟩
  rw [show (0 : Int) + (i : Nat) = (i : Nat) by omega]
  exact Dn.pair (k.Fnone hT) (.int _) (h2.mono s)
def iEnumF (fs : FA W) : FI W := fun η w => bindM (fs η w) fun ds w1 => match ds with
  | [.list xs] => match okLen xs.length with
    | true => .ok (enumL 0 xs, w1)
    | false => .stk
  | _ => .stk
variable {elts : List Expr} {kk : Nat} {tpos : Pos}
theorem di_enum (hg : Gl X "enumerate") (hm : X.mg "enumerate" = none) (ha : DA X R [e] tA fs) (hs : starEach [e] X.env = [(false, eval e X.env)] := by rfl) : DI X R (.Tuple elts kk tpos) (.Call (.Name "enumerate" p) [e] [] pos) (iEnum X.K tA) (iEnumF fs) := ⟨pi_enum hg hm ha.pa hs, fun B η w σ F H S Rr p =>
  ha.rf B η w σ F H S _ (p.bind fun ds w1 F1 H1 e k p vs hvs => by
    split at p
    · split at p
      · rename_i hl
        cases hvs with
        | cons hv ht => cases ht; cases hv with
          | lst hf hd => exact ⟨_, _, rfl, SqL.of (k.at hf id), p.here k (by rw [enumL_len]; exact okLen_le hl) _ (itw_enum hd fun F2 H2 w2 s _ k2 => SqL.of (k2.at (s _ _ hf) id))⟩
      · exact p.elim
    · exact p.elim)⟩
/-- zip of two lists, of two tuples -/
def zipL : List D → List D → List D
  | d :: r, d' :: r' => .tuple [d, d'] :: zipL r r'
  | _, _ => []
theorem zipL_len : ∀ (xs ys : List D), (zipL xs ys).length = min xs.length ys.length
  | [], _ => by simp [zipL]
  | _ :: _, [] => by simp [zipL]
  | _ :: r, _ :: r' => by simp [zipL, zipL_len r r']
theorem zipL_get : ∀ (xs ys : List D) (j : Nat) (x : D), (zipL xs ys)[j]? = some x → ∃ c d, xs[j]? = some c ∧ ys[j]? = some d ∧ x = .tuple [c, d]
  | [], _, _, _, h => by simp [zipL] at h
  | _ :: _, [], _, _, h => by simp [zipL] at h
  | c :: r, d :: r', 0, x, h => by
    simp [zipL] at h
    exact ⟨c, d, rfl, rfl, h.symm⟩
  | c :: r, d :: r', j + 1, x, h => by
    obtain ⟨c', d', h1, h2, h3⟩ := zipL_get r r' j x (by simpa [zipL] using h)
    exact ⟨c', d', by simpa using h1, by simpa using h2, h3⟩
theorem itw_zipL {K : PySem.W.Frag} {a b : Addr} {vs us : List V} {ds es : List D} {G : Hp → Prop} (hd : DnL F1 vs ds) (he : DnL F1 us es) (h : ∀ (F H : Hp) (w : W), Sub F1 F → G H → Wok R F H w → SqL K H a vs ∧ SqL K H b us) : ItW R F1 G (Itz K a b) (zipL ds es) := fun F H w s g k => by
  obtain ⟨q, q'⟩ := h F H w s g k
  refine ⟨fun i d e => ?_, fun i hi => ⟨vs, us, q, q', by rw [hd.len, he.len]; rw [zipL_len] at hi; omega⟩⟩
  obtain ⟨c, d', e1, e2, rfl⟩ := zipL_get _ _ _ _ e
  obtain ⟨v, h1, h2⟩ := hd.get i e1
  obtain ⟨u, h3, h4⟩ := he.get i e2
  refine ⟨⟨vs, us, v, u, q, q', h1, h3⟩, fun x H' hy => ?_⟩
  obtain ⟨T, x', y', rfl, hT, rfl, f, f'⟩ := hy
  have ex : v = x' := Option.some.inj (h1.symm.trans (f _ q))
  have ey : u = y' := Option.some.inj (h3.symm.trans (f' _ q'))
  subst ex ey
  exact ⟨_, Ext.new k hT, k.new hT, Dn.pair (k.Fnone hT) (h2.mono s) (h4.mono s)⟩
theorem itw_zipT {K : PySem.W.Frag} {a b : Addr} {vs us : List V} {ds es : List D} {G : Hp → Prop} (hd : DnL F1 vs ds) (he : DnL F1 us es) (h : ∀ (F H : Hp) (w : W), Sub F1 F → G H → Wok R F H w → SqT K H a vs ∧ SqT K H b us) : ItW R F1 G (RZ.ItzT K a b) (zipL ds es) := fun F H w s g k => by
  obtain ⟨q, q'⟩ := h F H w s g k
  refine ⟨fun i d e => ?_, fun i hi => ⟨vs, us, q, q', by rw [hd.len, he.len]; rw [zipL_len] at hi; omega⟩⟩
  obtain ⟨c, d', e1, e2, rfl⟩ := zipL_get _ _ _ _ e
  obtain ⟨v, h1, h2⟩ := hd.get i e1
  obtain ⟨u, h3, h4⟩ := he.get i e2
  refine ⟨⟨vs, us, v, u, q, q', h1, h3⟩, fun x H' hy => ?_⟩
  obtain ⟨T, x', y', rfl, hT, rfl, f, f'⟩ := hy
  have ex : v = x' := Option.some.inj (h1.symm.trans (f _ q))
  have ey : u = y' := Option.some.inj (h3.symm.trans (f' _ q'))
  subst ex ey
  exact ⟨_, Ext.new k hT, k.new hT, Dn.pair (k.Fnone hT) (h2.mono s) (h4.mono s)⟩
def iZipF (fs : FA W) : FI W := fun η w => bindM (fs η w) fun ds w1 => match ds with
  | [.list xs, .list ys] => match okLen xs.length with
    | true => .ok (zipL xs ys, w1)
    | false => .stk
  | [.tuple xs, .tuple ys] => match okLen xs.length with
    | true => .ok (zipL xs ys, w1)
    | false => .stk
  | _ => .stk
theorem di_zip (hg : Gl X "zip") (hm : X.mg "zip" = none) (ha : DA X R [a, b] tA fs) (hs : starEach [a, b] X.env = (false, eval a X.env) :: starEach [b] X.env := by rfl) (hpl : (backTo pos (starEach [b] X.env)).any (·.1) = false := by rfl) :
    DI X R (.Tuple elts kk tpos) (.Call (.Name "zip" p) [a, b] [] pos) (RZ.iZipA X.K tA) (iZipF fs) := ⟨RZ.pi_zipA hg hm ha.pa hs hpl, fun B η w σ F H S Rr p =>
  ha.rf B η w σ F H S _ (p.bind fun ds w1 F1 H1 e k p vs hvs => by
    split at p
    · split at p
      · rename_i hl
        cases hvs with
        | cons hv ht => cases ht with
          | cons hu ht => cases ht; cases hv with
            | lst hf hd => cases hu with
              | lst hf' hd' => exact ⟨_, _, _, _, rfl, .inl ⟨SqL.of (k.at hf id), SqL.of (k.at hf' id), p.here k (by rw [zipL_len]; have := okLen_le hl; omega) _ (itw_zipL hd hd' fun F2 H2 w2 s _ k2 => ⟨SqL.of (k2.at (s _ _ hf) id), SqL.of (k2.at (s _ _ hf') id)⟩)⟩⟩
      · exact p.elim
    · split at p
      · rename_i hl
        cases hvs with
        | cons hv ht => cases ht with
          | cons hu ht => cases ht; cases hv with
            | tup hf hd => cases hu with
              | tup hf' hd' => exact ⟨_, _, _, _, rfl, .inr ⟨SqT.of (k.at hf id), SqT.of (k.at hf' id), p.here k (by rw [zipL_len]; have := okLen_le hl; omega) _ (itw_zipT hd hd' fun F2 H2 w2 s _ k2 => ⟨SqT.of (k2.at (s _ _ hf) id), SqT.of (k2.at (s _ _ hf') id)⟩)⟩⟩
      · exact p.elim
    · exact p.elim)⟩

/-! ### targets -/
abbrev TgF (W : Type) := D → EnvD → W → Res (EnvD × W)
abbrev TgFs (W : Type) := List D → EnvD → W → Res (EnvD × W)
def PostG (R : Rsc W) (B : Bs) (F : Hp) (r : Res (EnvD × W)) (P : L2.St → Hp → Prop) : Prop := match r with
  | .ok (η1, w1) => ∀ σ1 F1 H1, StOk R B η1 w1 σ1 F1 H1 → Sub F F1 → P σ1 H1
  | .exc c => B.X c
  | .stk => False
structure DG (X : Cx) (R : Rsc W) (tg : Expr) (t : TG) (f : TgF W) : Prop where
  pg : PG X tg t
  rf : ∀ (B : Bs) (η : EnvD) (w : W) (σ : L2.St) (F H : Hp) (v : V) (d : D) (P : L2.St → Hp → Prop), StOk R B η w σ F H → Dn F v d → PostG R B F (f d η w) P → t v σ H P
structure DGs (X : Cx) (R : Rsc W) (tgs : List Expr) (t : TGs) (f : TgFs W) : Prop where
  pg : PGs X tgs t
  rf : ∀ (B : Bs) (η : EnvD) (w : W) (σ : L2.St) (F H : Hp) (vs : List V) (ds : List D) (P : L2.St → Hp → Prop), StOk R B η w σ F H → DnL F vs ds → PostG R B F (f ds η w) P → t vs σ H P
def tgN (i : Nat) : TgF W := fun d η w => .ok (η.set i (.fr d), w)
def tgT (f : TgFs W) : TgF W := fun d η w => match d with
  | .tuple ds => f ds η w
  | _ => .stk
def tgNil : TgFs W := fun ds η w => match ds with
  | [] => .ok (η, w)
  | _ => .stk
def tgCons (f : TgF W) (g : TgFs W) : TgFs W := fun ds η w => match ds with
  | d :: r => bindM (f d η w) fun η1 w1 => g r η1 w1
  | [] => .stk
theorem dg_name {i : Nat} {x : Str} (hN : X.N.Nodup) (hi : X.N[i]? = some x) (hx : Loc X.env.scope x) (hf : X.fn x = true ∨ X.env.scope.names.lookup x = some .local := by first | exact .inl rfl | exact .inr rfl | assumption) : DG X R (.Name x pos) (gName i) (tgN i : TgF W) :=
  ⟨pg_name hN hi hx hf, fun B η w σ F H v d P S hv p => p _ F H (S.setFr i hv) (Sub.refl F)⟩
theorem dgs_nil : DGs X R [] gNil (tgNil : TgFs W) := ⟨pgs_nil, fun B η w σ F H vs ds P S hv p => by
  cases hv with
  | nil => exact ⟨rfl, p σ F H S (Sub.refl F)⟩
  | cons _ _ => exact p.elim⟩
theorem dgs_cons {e : Expr} {es : List Expr} {t : TG} {u : TGs} {f : TgF W} {g : TgFs W} (h1 : DG X R e t f) (h2 : DGs X R es u g) (hs : (assignEach (e :: es) X.env).map (·.2) = assign e X.env :: (assignEach es X.env).map (·.2) := by rfl) : DGs X R (e :: es) (gCons t u) (tgCons f g) :=
  ⟨pgs_cons h1.pg h2.pg hs, fun B η w σ F H vs ds P S hv p => by
    cases hv with
    | nil => exact p.elim
    | cons hv ht =>
      refine ⟨_, _, rfl, h1.rf B η w σ F H _ _ _ S hv ?_⟩
      unfold tgCons at p
      dsimp only at p
      revert p
      generalize f _ η w = r
      intro p
      match r, p with
      | .ok (η1, w1), p =>
        intro σ1 F1 H1 S1 sb
        refine h2.rf B η1 w1 σ1 F1 H1 _ _ _ S1 (ht.mono sb) ?_
        have p' : PostG R B F (g _ η1 w1) P := p
        revert p'
        generalize g _ η1 w1 = r2
        intro p'
        match r2, p' with
        | .ok (η2, w2), p' => exact fun σ2 F2 H2 S2 sb2 => p' σ2 F2 H2 S2 (sb.trans sb2)
        | .exc c, p' => exact p'
        | .stk, p' => exact p'
      | .exc c, p => exact p
      | .stk, p => exact p⟩
/-- a target of n takes n -/
def TLen (g : TgFs W) (n : Nat) : Prop := ∀ ds η w, ds.length ≠ n → g ds η w = .stk ∨ ∃ c, g ds η w = .exc c
theorem tl_nil : TLen (tgNil : TgFs W) 0 := fun ds η w h => by
  cases ds with
  | nil => exact (h rfl).elim
  | cons _ _ => exact .inl rfl
theorem tl_cons {f : TgF W} {g : TgFs W} {n : Nat} (h : TLen g n) : TLen (tgCons f g) (n + 1) := fun ds η w q => by
  cases ds with
  | nil => exact .inl rfl
  | cons d r =>
    have q' : r.length ≠ n := fun e => q (by simp [e])
    show bindM (f d η w) (fun η1 w1 => g r η1 w1) = .stk ∨ ∃ c, bindM (f d η w) (fun η1 w1 => g r η1 w1) = .exc c
    cases z : f d η w with
    | ok a => exact h r a.1 a.2 q'
    | exc c => exact .inr ⟨c, rfl⟩
    | stk => exact .inl rfl
theorem dg_tup {es : List Expr} {k : Nat} {t : TGs} {g : TgFs W} {n : Nat} (hc : X.calm = true) (h : DGs X R es t g) (hlen : TLen g n) (nx : ∀ ds η w c, ds.length ≠ n → g ds η w ≠ .exc c)
    (hn : (assignEach es X.env).length = n := by rfl) (hst : (assignEach es X.env).findIdx? (·.1) = none := by rfl) : DG X R (.Tuple es k pos) (gTup X.K n t) (tgT g) := ⟨pg_tup hc h.pg hn hst, fun B η w σ F H v d P S hv p => by
  unfold tgT at p
  split at p
  · rename_i ds
    cases hv with
    | tup hf hd =>
      refine ⟨_, _, rfl, SqT.of (S.wok.at hf id), ?_, h.rf B η w σ F H _ _ P S hd p⟩
      rw [hd.len]
      refine Classical.byContradiction fun z => ?_
      rcases hlen _ η w z with q | ⟨c, q⟩
      · rw [q] at p; exact p
      · exact nx _ _ _ _ z q
  · exact p.elim⟩
end
end Cw

namespace Cw
open PySem PySem.Spec PyProof.Rows L2
section
variable {W : Type} {R : Rsc W} {F H F1 H1 : Hp} {w w1 : W} {X : Cx} {B : Bs} {η : EnvD} {σ : L2.St}

/-! ### for -/
def forL (tg : TgF W) (g : FS W) : List D → FS W
  | [] => fun η w => .ok (.nx η, w)
  | d :: r => fun η w => bindM (tg d η w) fun η1 w1 => bindM (g η1 w1) fun o w2 => match o with
    | .nx η' => forL tg g r η' w2
    | .ct η' => forL tg g r η' w2
    | .bk η' => .ok (.nx η', w2)
    | .rt d => .ok (.rt d, w2)
def sFor (fi : FI W) (tg : TgF W) (g : FS W) : FS W := fun η w => bindM (fi η w) fun ds w1 => forL tg g ds η w1
/-- a base in which more is frozen -/
def rebase (B : Bs) (F : Hp) : Bs := ⟨F, B.H, B.X⟩
theorem StOk.rebase (S : StOk R B η w σ F H) : StOk R (Cw.rebase B F) η w σ F H :=
  { S with ext := ⟨Sub.refl F, fun n q h => S.ext.keep n (q.imp (fun q => by
      show B.F _ = none
      cases z : B.F _ with
      | none => rfl
      | some u =>
        have y := S.ext.mono _ _ z
        rw [show F _ = none from q] at y
        cases y) id) h, fun _ _ _ h => h⟩ }
theorem ext_unbase {F0 : Hp} (e0 : Ext R B.F B.H F0 H) (e : Ext R F0 B.H F1 H1) : Ext R B.F B.H F1 H1 :=
  ⟨e0.mono.trans e.mono, fun {c o} n q h => e.keep n (by
      by_cases z : IsFrz o
      · exact .inr z
      · exact q.imp (fun q => e0.fresh n z h q) (fun q => q)) h, fun n z h h' => e.fresh n z h (e0.fresh n z h h')⟩
theorem StOk.unbase {F0 : Hp} {η1 : EnvD} {σ1 : L2.St} (S : StOk R B η w σ F0 H) (S1 : StOk R (Cw.rebase B F0) η1 w1 σ1 F1 H1) : StOk R B η1 w1 σ1 F1 H1 := { S1 with ext := ext_unbase S.ext S1.ext }
theorem PostS.rebase {r : Res (Out × W)} {Dd : Ends} (S : StOk R B η w σ F H) (p : PostS R B r Dd) : PostS R (Cw.rebase B F) r Dd := by
  match r, p with
  | .ok (.nx η', w'), p => exact fun σ' F' H' S' => p σ' F' H' (S.unbase S')
  | .ok (.rt d, w'), p => exact fun v F' H' e o h => p v F' H' (ext_unbase S.ext e) o h
  | .ok (.bk η', w'), p => exact fun σ' F' H' S' => p σ' F' H' (S.unbase S')
  | .ok (.ct η', w'), p => exact fun σ' F' H' S' => p σ' F' H' (S.unbase S')
  | .exc c, p => exact p
  | .stk, p => exact p
theorem ref_for {wi : TI} {g : TG} {tb : TS} {fi : FI W} {tgf : TgF W} {gb : FS W}
    (hi : ∀ (B : Bs) (η : EnvD) (w : W) (σ : L2.St) (F H : Hp), StOk R B η w σ F H → ∀ Rr : It → Hp → Prop, Post R F H B.X (fi η w) (fun ds F' H' => ds.length ≤ 1000000 → ∀ J, ItW R F' (fun _ => True) J ds → Rr J H') → wi σ H Rr)
    (hg : ∀ (B : Bs) (η : EnvD) (w : W) (σ : L2.St) (F H : Hp) (v : V) (d : D) (P : L2.St → Hp → Prop), StOk R B η w σ F H → Dn F v d → PostG R B F (tgf d η w) P → g v σ H P)
    (hb : RefS R tb gb) : RefS R (tFor wi g tb) (sFor fi tgf gb) := fun B η w σ F H S Dd p => by
  refine hi B η w σ F H S _ (p.bind S fun ds w1 F1 H1 S1 e p _ J hJ => ?_)
  have p1 := p.rebase S1
  have S2 := S1.rebase
  revert p1 S2
  generalize rebase B F1 = B'
  intro p1 S2
  refine ⟨fun i m σ H => ∃ η w F, StOk R B' η w σ F H ∧ Sub F1 F ∧ i ≤ ds.length ∧ m = ds.length - i ∧ PostS R B' (forL tgf gb (ds.drop i) η w) Dd, ⟨_, η, w1, F1, S2, Sub.refl F1, Nat.zero_le _, rfl, p1⟩, fun i m σ H hW => ?_⟩
  obtain ⟨η, w, F, S, sb, hle, hm, q⟩ := hW
  obtain ⟨hgo, hst⟩ := hJ F H w sb trivial S.wok
  by_cases hi : i < ds.length
  · right
    obtain ⟨h1, h2⟩ := hgo i _ (List.getElem?_eq_getElem hi)
    refine ⟨h1, fun σ' H' => ∃ η' w' F', StOk R B' η' w' σ' F' H' ∧ Sub F1 F' ∧ PostS R B' (forL tgf gb (ds.drop (i + 1)) η' w') Dd, fun σ' H' hN => ?_, fun x H' hy => ?_⟩
    · obtain ⟨η', w', F', S', sb', q'⟩ := hN
      exact ⟨ds.length - (i + 1), by omega, η', w', F', S', sb', hi, rfl, q'⟩
    · obtain ⟨F', e', k', hx⟩ := h2 x H' hy
      have S' := S.go e' k'
      rw [List.drop_eq_getElem_cons hi] at q
      refine hg B' η w σ F' H' x _ _ S' hx ?_
      unfold forL at q
      revert q
      generalize tgf ds[i] η w = r
      intro q
      match r, q with
      | .ok (η1, w1), q =>
        intro σ1 F2 H2 S2 sb2
        have S3 := S2.rebase
        refine hb _ η1 w1 σ1 F2 H2 S3 _ ?_
        have q' : PostS R B' (bindM (gb η1 w1) fun o w2 => match o with
          | .nx η' => forL tgf gb (ds.drop (i + 1)) η' w2
          | .ct η' => forL tgf gb (ds.drop (i + 1)) η' w2
          | .bk η' => .ok (.nx η', w2)
          | .rt d => .ok (.rt d, w2)) Dd := q
        revert q'
        generalize gb η1 w1 = r2
        intro q'
        have sb3 : Sub F1 F2 := (sb.trans e'.mono).trans sb2
        match r2, q' with
        | .ok (.nx η', w2), q' => exact fun σ' F' H' S' => ⟨η', w2, F', S2.unbase S', sb3.trans S'.ext.mono, q'⟩
        | .ok (.ct η', w2), q' => exact fun σ' F' H' S' => ⟨η', w2, F', S2.unbase S', sb3.trans S'.ext.mono, q'⟩
        | .ok (.bk η', w2), q' => exact fun σ' F' H' S' => q' σ' F' H' (S2.unbase S')
        | .ok (.rt d, w2), q' => exact fun v F' H' e o h => q' v F' H' (ext_unbase S2.ext e) o h
        | .exc c, q' => exact q'
        | .stk, q' => exact q'
      | .exc c, q => exact q
      | .stk, q => exact q
  · left
    have ei : i = ds.length := by omega
    refine ⟨hst i (by omega), ?_⟩
    rw [ei, List.drop_length] at q
    exact q σ F H S
variable {tg iter e : Expr} {body : List Stmt} {wi : TI} {g : TG} {tb : TS} {fi : FI W} {tgf : TgF W} {gb : FS W} {pos p : Pos} {te : TE} {fe : FE W}
theorem ds_for (hp : PassesOwn (model X.prog X.w) X.A X.env X.xe) (hc : X.calm = true) (hi : DI X R tg iter wi fi) (hg : DG X R tg g tgf) (hb : DSs X R body tb gb) (hs : ∀ x, foldedSetIterable iter X.env x = pure x := by intro _; rfl) : DS X R (.For tg iter body [] pos) (tFor wi g tb) (sFor fi tgf gb) :=
  ⟨ps_for hp hc hi.pi hg.pg hb.ps hs, ref_for hi.rf hg.rf hb.rf⟩

/-! ### list comprehensions -/
/-- targets that are names alone, at the slots sl -/
structure DGn (X : Cx) (R : Rsc W) (tg : Expr) (t : TG) (f : TgF W) (sl : List Nat) : Prop where
  pg : PG X tg t
  rf : ∀ (B : Bs) (η : EnvD) (w : W) (σ : L2.St) (F H : Hp) (v : V) (d : D) (P : L2.St → Hp → Prop), StOk R B η w σ F H → Dn F v d → (match f d η w with
    | .ok (η1, w1) => w1 = w → ∀ σ1, StOk R B η1 w σ1 F H → (∀ vs, (∀ i ∈ sl, i ∈ vs) → wipe σ1 vs = wipe σ vs) → P σ1 H
    | _ => False) → t v σ H P
structure DGns (X : Cx) (R : Rsc W) (tgs : List Expr) (t : TGs) (f : TgFs W) (sl : List Nat) : Prop where
  pg : PGs X tgs t
  rf : ∀ (B : Bs) (η : EnvD) (w : W) (σ : L2.St) (F H : Hp) (vs : List V) (ds : List D) (P : L2.St → Hp → Prop), StOk R B η w σ F H → DnL F vs ds → (match f ds η w with
    | .ok (η1, w1) => w1 = w → ∀ σ1, StOk R B η1 w σ1 F H → (∀ vs, (∀ i ∈ sl, i ∈ vs) → wipe σ1 vs = wipe σ vs) → P σ1 H
    | _ => False) → t vs σ H P
theorem set_set_comm {α : Type} {l : List α} {i j : Nat} {a b : α} (h : i ≠ j) : (l.set i a).set j b = (l.set j b).set i a := List.set_comm _ _ h
theorem wipe_set {i : Nat} {x : Option V} : ∀ {vs : List Nat} {σ : L2.St}, i ∈ vs → wipe (σ.set i x) vs = wipe σ vs
  | v :: vs, σ, h => by
    show (wipe (σ.set i x) vs).set v none = (wipe σ vs).set v none
    by_cases hv : i ∈ vs
    · rw [wipe_set hv]
    · have e : i = v := by
        rcases List.mem_cons.mp h with h | h
        · exact h
        · exact (hv h).elim
      subst e
      have out : ∀ (us : List Nat) (τ : L2.St), i ∉ us → wipe (τ.set i x) us = (wipe τ us).set i x := by
        intro us
        induction us with
        | nil => intro τ _; rfl
        | cons u us ih =>
          intro τ hu
          have h1 : i ≠ u := fun z => hu (by rw [z]; exact List.mem_cons_self)
          have h2 : i ∉ us := fun z => hu (List.mem_cons_of_mem _ z)
          show (wipe (τ.set i x) us).set u none = ((wipe τ us).set u none).set i x
          rw [ih τ h2, List.set_comm _ _ h1]
      rw [out vs σ hv, List.set_set]
theorem wipe_wipe : ∀ (vs us : List Nat) (σ : L2.St), (∀ i ∈ us, i ∈ vs) → wipe (wipe σ us) vs = wipe σ vs
  | vs, [], σ, _ => rfl
  | vs, u :: us, σ, h => by
    show wipe ((wipe σ us).set u none) vs = wipe σ vs
    rw [wipe_set (h u List.mem_cons_self), wipe_wipe vs us σ fun i hi => h i (List.mem_cons_of_mem _ hi)]
theorem dgn_name {i : Nat} {x : Str} (hN : X.N.Nodup) (hi : X.N[i]? = some x) (hx : Loc X.env.scope x) (hf : X.fn x = true ∨ X.env.scope.names.lookup x = some .local := by first | exact .inl rfl | exact .inr rfl | assumption) : DGn X R (.Name x pos) (gName i) (tgN i : TgF W) [i] :=
  ⟨pg_name hN hi hx hf, fun B η w σ F H v d P S hv p => p rfl _ (S.setFr i hv) fun vs h => wipe_set (h i List.mem_cons_self)⟩
theorem dgns_nil : DGns X R [] gNil (tgNil : TgFs W) [] := ⟨pgs_nil, fun B η w σ F H vs ds P S hv p => by
  cases hv with
  | nil => exact ⟨rfl, p rfl σ S fun _ _ => rfl⟩
  | cons _ _ => exact p.elim⟩
theorem dgns_cons {e : Expr} {es : List Expr} {t : TG} {u : TGs} {f : TgF W} {g : TgFs W} {sl sl' : List Nat} (h1 : DGn X R e t f sl) (h2 : DGns X R es u g sl') (hs : (assignEach (e :: es) X.env).map (·.2) = assign e X.env :: (assignEach es X.env).map (·.2) := by rfl) : DGns X R (e :: es) (gCons t u) (tgCons f g) (sl ++ sl') :=
  ⟨pgs_cons h1.pg h2.pg hs, fun B η w σ F H vs ds P S hv p => by
    cases hv with
    | nil => exact p.elim
    | cons hv ht =>
      refine ⟨_, _, rfl, h1.rf B η w σ F H _ _ _ S hv ?_⟩
      unfold tgCons at p
      dsimp only at p
      revert p
      generalize f _ η w = r
      intro p
      match r, p with
      | .ok (η1, w1), p =>
        rintro rfl σ1 S1 hw1
        refine h2.rf B η1 w1 σ1 F H _ _ _ S1 ht ?_
        simp only [bindM] at p
        revert p
        generalize g _ η1 w1 = r2
        intro p'
        match r2, p' with
        | .ok (η2, w2), p' => exact fun e2 σ2 S2 hw2 => p' e2 σ2 S2 fun vs h => (hw2 vs fun i hi => h i (List.mem_append_right _ hi)).trans (hw1 vs fun i hi => h i (List.mem_append_left _ hi))
        | .exc c, p' => exact p'
        | .stk, p' => exact p'
      | .exc c, p => exact p
      | .stk, p => exact p⟩
theorem dgn_tup {es : List Expr} {k : Nat} {t : TGs} {g : TgFs W} {n : Nat} {sl : List Nat} (hc : X.calm = true) (h : DGns X R es t g sl) (hlen : TLen g n)
    (hn : (assignEach es X.env).length = n := by rfl) (hst : (assignEach es X.env).findIdx? (·.1) = none := by rfl) : DGn X R (.Tuple es k pos) (gTup X.K n t) (tgT g) sl := ⟨pg_tup hc h.pg hn hst, fun B η w σ F H v d P S hv p => by
  cases d with
  | tuple ds =>
    cases hv with
    | tup hf hd =>
      refine ⟨_, _, rfl, SqT.of (S.wok.at hf id), ?_, h.rf B η w σ F H _ _ P S hd p⟩
      rw [hd.len]
      refine Classical.byContradiction fun z => ?_
      revert p
      show (match g ds η w with | .ok (η1, w1) => _ | _ => False) → False
      rcases hlen _ η w z with q | ⟨c, q⟩ <;> rw [q] <;> exact fun p => p
  | _ => exact p.elim⟩
def wipeD (η : EnvD) : List Nat → EnvD
  | [] => η
  | v :: vs => (wipeD η vs).set v .un
theorem StOk.wipe (S : StOk R B η w σ F H) : ∀ vs : List Nat, StOk R B (wipeD η vs) w (L2.wipe σ vs) F H
  | [] => S
  | v :: vs => (S.wipe vs).forget v none
/-- the turns of a comprehension -/
def lcL (own : List Nat) (tgf : TgF W) (ft : FT W) (fe : FE W) : List D → EnvD → W → Res (List D × W)
  | [], _, w => .ok ([], w)
  | d :: r, η, w => bindM (tgf d (wipeD η own) w) fun η1 w0 => bindM (ft η1 w0) fun b w1 => match b with
    | true => bindM (fe η1 w1) fun y w2 => bindM (lcL own tgf ft fe r η w2) fun ys w3 => .ok (y :: ys, w3)
    | false => lcL own tgf ft fe r η w1
def eLc (fi : FI W) (own : List Nat) (tgf : TgF W) (ft : FT W) (fe : FE W) : FE W := fun η w => bindM (fi η w) fun ds w1 => bindM (lcL own tgf ft fe ds η w1) fun ys w2 => .ok (.list ys, w2)
def tYesF : FT W := fun _ w => .ok (true, w)
theorem Post.at {α : Type} {r : Res (α × W)} {Xc : String → Prop} {P : α → Hp → Hp → Prop} (e : Ext R F H F1 H1) (p : Post R F H Xc r P) : Post R F1 H1 Xc r P := by
  match r, p with
  | .ok (a, w), p => exact fun F' H' e' k' => p F' H' (e.trans e') k'
  | .exc c, p => exact p
  | .stk, p => exact p
/-- the tests of a clause -/
structure DTs (X : Cx) (R : Rsc W) (ifs : List Expr) (t : TT) (f : FT W) : Prop where
  pt : PTs X ifs t
  rf : RefT R t f
theorem dts_nil : DTs X R [] tYes (tYesF : FT W) := ⟨pts_nil, fun B η w σ F H S Q p => p.here S.wok⟩
theorem dts_one {c : Expr} {t : TT} {f : FT W} (h : DT X R c t f) : DTs X R [c] t f := ⟨pts_one h.pt, h.rf⟩
def less (H : Hp) (L : Addr) : Hp := fun a => if a = L then none else H a
theorem less_ne {H : Hp} {L a : Addr} (h : a ≠ L) : less H L a = H a := by unfold less; rw [if_neg h]
theorem less_some {H : Hp} {L a : Addr} {o : HO} (h : less H L a = some o) : a ≠ L ∧ H a = some o := by
  unfold less at h
  split at h
  · cases h
  · rename_i n; exact ⟨n, h⟩
theorem less_upd {H : Hp} {L : Addr} {o : HO} : less (upd H L o) L = less H L := by
  funext a
  unfold less
  split
  · rfl
  · rename_i n; exact upd_ne n
theorem less_none {H : Hp} {L : Addr} (h : H L = none) : less H L = H := by
  funext a
  unfold less
  split
  · rename_i n; rw [n, h]
  · rfl
theorem Ext.less {L : Addr} (e : Ext R F H F1 H1) : Ext R F (Cw.less H L) F1 (Cw.less H1 L) := ⟨e.mono, fun n q h => by
  obtain ⟨h1, h2⟩ := less_some h
  rw [less_ne h1]; exact e.keep n q h2, fun n z h h' => e.fresh n z (less_some h).2 h'⟩
theorem Ext.ofLess {L : Addr} : Ext R F (Cw.less H L) F H := ⟨Sub.refl F, fun n q h => (less_some h).2, fun n z h h' => h'⟩
theorem Post.bindL {L : Addr} {α β : Type} {Xc : String → Prop} {r : Res (α × W)} {g : α → W → Res (β × W)} {P : β → Hp → Hp → Prop} {P' : α → Hp → Hp → Prop}
    (h : Post R F (Cw.less H L) Xc (bindM r g) P) (k : ∀ a w1 F1 H1, Ext R F H F1 H1 → Wok R F1 H1 w1 → Post R F1 (Cw.less H1 L) Xc (g a w1) P → P' a F1 H1) : Post R F H Xc r P' := by
  match r, h with
  | .ok (a, w1), h =>
    intro F1 H1 e o
    exact k a w1 F1 H1 e o (Post.at e.less h)
  | .exc c, h => exact h
  | .stk, h => exact h
theorem ref_lc {wi : TI} {g : TG} {tt : TT} {te : TE} {fi : FI W} {tgf : TgF W} {ft : FT W} {fe : FE W} {own sl : List Nat} (hsl : ∀ i ∈ sl, i ∈ own)
    (hi : ∀ (B : Bs) (η : EnvD) (w : W) (σ : L2.St) (F H : Hp), StOk R B η w σ F H → ∀ Rr : It → Hp → Prop, Post R F H B.X (fi η w) (fun ds F' H' => ds.length ≤ 1000000 → ∀ J, ItW R F' (Stay R F' H') J ds → Rr J H') → wi σ H Rr)
    (hg : ∀ (B : Bs) (η : EnvD) (w : W) (σ : L2.St) (F H : Hp) (v : V) (d : D) (P : L2.St → Hp → Prop), StOk R B η w σ F H → Dn F v d → (match tgf d η w with
      | .ok (η1, w1) => w1 = w → ∀ σ1, StOk R B η1 w σ1 F H → (∀ vs, (∀ i ∈ sl, i ∈ vs) → wipe σ1 vs = wipe σ vs) → P σ1 H
      | _ => False) → g v σ H P)
    (hgw : ∀ d η w η1 w1, tgf d η w = .ok (η1, w1) → w1 = w) (hgx : ∀ d η w c, tgf d η w ≠ .exc c) (ht : RefT R tt ft) (he : RefE R te fe) : RefN R (tLc wi g tt te own) (eLc fi own tgf ft fe) := fun B η w σ F0 H0 S0 Q p => by
  refine hi B η w σ F0 H0 S0 _ (p.bind fun ds w1 F1 H1 e0 k0 p hlen J hJ => fun L hL => ?_)
  have S1 := S0.go e0 k0
  have hL0 : H0 L = none := e0.none0 k0 hL
  have nfL : ¬ R.foot L := k0.notfoot hL
  -- what is wanted behind the rest of the turns
  have p1 : Post R F1 (Cw.less (upd H1 L (.lst [])) L) B.X (bindM (lcL own tgf ft fe ds η w1) fun ys w2 => .ok ([] ++ ys, w2)) (fun all F' H' => ∀ vs, H' L = some (.lst vs) → DnL F' vs all → F' L = none → Q (.ref L) H') := by
    rw [less_upd, less_none hL]
    revert p
    generalize lcL own tgf ft fe ds η w1 = r
    intro p
    match r, p with
    | .ok (ys, w2), p => exact fun F' H' e k vs hv hd hF => p F' H' e k L _ hL0 hv (.lst hd) hF
    | .exc c, p => exact p
    | .stk, p => exact p
  refine ⟨fun i m H => ∃ w F vs acc, Wok R F H w ∧ Ext R F1 H1 F H ∧ H L = some (.lst vs) ∧ F L = none ∧ DnL F vs acc ∧ i ≤ ds.length ∧ m = ds.length - i ∧ vs.length ≤ i ∧
      Post R F (Cw.less H L) B.X (bindM (lcL own tgf ft fe (ds.drop i) η w) fun ys w2 => .ok (acc ++ ys, w2)) (fun all F' H' => ∀ vs, H' L = some (.lst vs) → DnL F' vs all → F' L = none → Q (.ref L) H'),
    ⟨_, w1, F1, [], [], k0.newO hL, Ext.newO hL, upd_same, k0.Fnone hL, .nil, Nat.zero_le _, rfl, Nat.zero_le _, p1⟩, fun i m H hW => ?_⟩
  obtain ⟨w, F, vs, acc, k, e, hv, hF, hd, hle, hm, hvl, q⟩ := hW
  have S := S1.go e k
  obtain ⟨hgo, hst⟩ := hJ F H w e.mono (fun a o n z h => e.keep n z h) k
  by_cases hi : i < ds.length
  · right
    obtain ⟨h1, h2⟩ := hgo i _ (List.getElem?_eq_getElem hi)
    refine ⟨h1, fun H' => ∃ w' F' vs' acc', Wok R F' H' w' ∧ Ext R F1 H1 F' H' ∧ H' L = some (.lst vs') ∧ F' L = none ∧ DnL F' vs' acc' ∧ vs'.length ≤ i + 1 ∧
        Post R F' (Cw.less H' L) B.X (bindM (lcL own tgf ft fe (ds.drop (i + 1)) η w') fun ys w2 => .ok (acc' ++ ys, w2)) (fun all F' H' => ∀ vs, H' L = some (.lst vs) → DnL F' vs all → F' L = none → Q (.ref L) H'), fun H' hN => ?_, fun x H' hy => ?_⟩
    · obtain ⟨w', F', vs', acc', a1, a2, a3, a4, a5, a6, a7⟩ := hN
      exact ⟨ds.length - (i + 1), by omega, w', F', vs', acc', a1, a2, a3, a4, a5, hi, rfl, a6, a7⟩
    · obtain ⟨F', e', k', hx⟩ := h2 x H' hy
      have S' := (S.go e' k').wipe own
      rw [List.drop_eq_getElem_cons hi] at q
      unfold lcL at q
      refine hg B _ w _ F' H' x _ _ S' hx ?_
      have hw' := hgw ds[i] (wipeD η own) w
      have hx' := hgx ds[i] (wipeD η own) w
      revert q hw' hx'
      generalize tgf ds[i] (wipeD η own) w = r
      intro q hw' hx'
      match r, q with
      | .exc c, q => exact absurd rfl (hx' c)
      | .stk, q => exact q.elim
      | .ok (η1, w0), q =>
        rintro rfl σ1 Sg hwp
        have e1 := e.trans e'
        have hv1 : H' L = some (.lst vs) := e'.keep nfL (.inl hF) hv
        have hF1 : F' L = none := e'.fresh nfL (show ¬ IsFrz (.lst _) from fun z => z) hv hF
        refine ⟨(hwp own fun i hi => hsl i hi).trans (wipe_wipe own own σ fun _ h => h), ?_⟩
        -- the test
        have q1 : Post R F' (Cw.less H' L) B.X (bindM (ft η1 w0) fun b w1 => bindM (match b with
            | true => bindM (fe η1 w1) fun y w2 => bindM (lcL own tgf ft fe (ds.drop (i + 1)) η w2) fun ys w3 => .ok (y :: ys, w3)
            | false => lcL own tgf ft fe (ds.drop (i + 1)) η w1) fun ys w2 => .ok (acc ++ ys, w2)) (fun all F' H' => ∀ vs, H' L = some (.lst vs) → DnL F' vs all → F' L = none → Q (.ref L) H') := by
          refine Post.at e'.less ?_
          revert q
          simp only [bindM]
          generalize ft η1 w0 = r1
          intro z
          match r1, z with
          | .ok (true, w2), z => exact z
          | .ok (false, w2), z => exact z
          | .exc c, z => exact z
          | .stk, z => exact z
        refine ht B η1 w0 σ1 F' H' Sg _ (Post.bindL q1 fun b w1 F2 H2 e2 k2 q2 => ?_)
        have hv2 : H2 L = some (.lst vs) := e2.keep nfL (.inl hF1) hv1
        have hF2 : F2 L = none := e2.fresh nfL (show ¬ IsFrz (.lst _) from fun z => z) hv1 hF1
        have e12 := e1.trans e2
        cases b with
        | false => exact iteF ⟨w1, F2, vs, acc, k2, e12, hv2, hF2, hd.mono (e'.mono.trans e2.mono), Nat.le_succ_of_le hvl, q2⟩
        | true =>
          refine iteT (he B η1 w1 σ1 F2 H2 (Sg.go e2 k2) _ ?_)
          have q3 : Post R F2 (Cw.less H2 L) B.X (bindM (fe η1 w1) fun y w2 => bindM (lcL own tgf ft fe (ds.drop (i + 1)) η w2) fun ys w3 => .ok ((acc ++ [y]) ++ ys, w3)) (fun all F' H' => ∀ vs, H' L = some (.lst vs) → DnL F' vs all → F' L = none → Q (.ref L) H') := by
            revert q2
            simp only [bindM]
            generalize fe η1 w1 = r1
            intro z
            match r1, z with
            | .ok (y, w2), z =>
              simp only at z ⊢
              revert z
              generalize lcL own tgf ft fe (ds.drop (i + 1)) η w2 = r2
              intro z
              match r2, z with
              | .ok (ys, w3), z =>
                simp only [List.append_assoc, List.cons_append, List.nil_append]
                exact z
              | .exc c, z => exact z
              | .stk, z => exact z
            | .exc c, z => exact z
            | .stk, z => exact z
          refine Post.bindL q3 fun y w2 F3 H3 e3 k3 q4 v hy => ?_
          have hv3 : H3 L = some (.lst vs) := e3.keep nfL (.inl hF2) hv2
          have hF3 : F3 L = none := e3.fresh nfL (show ¬ IsFrz (.lst _) from fun z => z) hv2 hF2
          have hd3 := ((hd.mono e'.mono).mono e2.mono).mono e3.mono
          refine ⟨vs, hv3, line_lt (by omega), w2, F3, vs ++ [v], acc ++ [y], ⟨fun a u h => ?_, k3.nf, R.stable k3.res fun b fb => upd_ne fun z => nfL (z ▸ fb)⟩, ⟨(e12.trans e3).mono, fun {a o} n z h => ?_, (e12.trans e3).fresh⟩, upd_same, hF3, hd3.append (.one hy), by simp; omega, ?_⟩
          · rw [upd_ne (ne_of_none h hF3)]; exact k3.sub a u h
          · rw [upd_ne (ne_of_none h hL)]; exact (e12.trans e3).keep n z h
          · rw [less_upd]; exact q4
  · left
    have ei : i = ds.length := by omega
    refine ⟨hst i (by omega), ?_⟩
    rw [ei, List.drop_length] at q
    have q' : Post R F (Cw.less H L) B.X (.ok (acc ++ [], w)) (fun all F' H' => ∀ vs, H' L = some (.lst vs) → DnL F' vs all → F' L = none → Q (.ref L) H') := q
    rw [List.append_nil] at q'
    exact q' F H .ofLess k vs hv hd hF
variable {tg iter e elt : Expr} {ifs : List Expr} {scope : Scope} {own : List (Str × Nat)} {wi : TI} {g : TG} {tt : TT} {te : TE} {fi : FI W} {tgf : TgF W} {ft : FT W} {fe : FE W} {sl : List Nat} {pos spos py : Pos}
/-- what a names' target never does -/
def NoG (tgf : TgF W) : Prop := (∀ d η w η1 w1, tgf d η w = .ok (η1, w1) → w1 = w) ∧ ∀ d η w c, tgf d η w ≠ .exc c
def NoGs (tgf : TgFs W) : Prop := (∀ d η w η1 w1, tgf d η w = .ok (η1, w1) → w1 = w) ∧ ∀ d η w c, tgf d η w ≠ .exc c
theorem ng_n (i : Nat) : NoG (tgN i : TgF W) := ⟨fun d η w η1 w1 h => by cases h; rfl, fun d η w c h => by cases h⟩
theorem ng_nil : NoGs (tgNil : TgFs W) := ⟨fun d η w η1 w1 h => by unfold tgNil at h; split at h <;> cases h; rfl, fun d η w c h => by unfold tgNil at h; split at h <;> cases h⟩
theorem ng_cons {f : TgF W} {g : TgFs W} (h1 : NoG f) (h2 : NoGs g) : NoGs (tgCons f g) := by
  refine ⟨fun d η w η1 w1 h => ?_, fun d η w c h => ?_⟩
  · unfold tgCons at h
    split at h
    · rename_i d r
      cases z : f d η w with
      | ok q =>
        rw [z] at h
        have := h1.1 _ _ _ q.1 q.2 z
        rw [← this]; exact h2.1 _ _ _ _ _ h
      | exc c => rw [z] at h; cases h
      | stk => rw [z] at h; cases h
    · cases h
  · unfold tgCons at h
    split at h
    · rename_i d r
      cases z : f d η w with
      | ok q => rw [z] at h; exact h2.2 _ _ _ _ h
      | exc c => exact h1.2 _ _ _ _ z
      | stk => rw [z] at h; cases h
    · cases h
theorem ng_t {g : TgFs W} (h : NoGs g) : NoG (tgT g) := by
  refine ⟨fun d η w η1 w1 q => ?_, fun d η w c q => ?_⟩
  · unfold tgT at q
    split at q
    · exact h.1 _ _ _ _ _ q
    · cases q
  · unfold tgT at q
    split at q
    · exact h.2 _ _ _ _ q
    · cases q
theorem dn_lc (hc : X.calm = true) (hN : X.N.Nodup) (hi : DJ X R tg iter wi fi) (ok : BlkOk X.N X.env.scope scope own)
    (hg : ∀ (s : Shared) (H : Hp) (C : Addr) (cl : List (Str × Addr)) (fp : List Addr), DGn (X.blk s H scope (compEnvC scope cl C X.env) fp) R tg g tgf sl) (ng : NoG tgf) (hsl : ∀ i ∈ sl, i ∈ own.map (·.2))
    (ht : ∀ (s : Shared) (H : Hp) (C : Addr) (cl : List (Str × Addr)) (fp : List Addr), DTs (X.blk s H scope (compEnvC scope cl C X.env) fp) R ifs tt ft)
    (he : ∀ (s : Shared) (H : Hp) (C : Addr) (cl : List (Str × Addr)) (fp : List Addr), DE (X.blk s H scope (compEnvC scope cl C X.env) fp) R elt te fe) (hs : ∀ x, foldedSetIterable iter X.env x = pure x := by intro _; rfl) :
    DN X R (.ListComp elt [⟨tg, iter, ifs, 0⟩] scope pos) (tLc wi g tt te (own.map (·.2))) (eLc fi (own.map (·.2)) tgf ft fe) :=
  ⟨pe_lc hc hN hi.pi ok (fun s H C cl fp => (hg s H C cl fp).pg) (fun s H C cl fp => (ht s H C cl fp).pt) (fun s H C cl fp => (he s H C cl fp).pe) hs,
    ref_lc hsl hi.rf (hg X.s_0 X.H_0 0 [] []).rf ng.1 ng.2 (ht X.s_0 X.H_0 0 [] []).rf (he X.s_0 X.H_0 0 [] []).rf⟩
theorem ps_lc {i : Nat} {y : Str} (hc : X.calm = true) (hN : X.N.Nodup) (hy : X.N[i]? = some y) (hyl : X.env.scope.names.lookup y = some .local)
    (hsw : swapsWith (.ListComp elt [⟨tg, iter, ifs, 0⟩] scope pos) (some (.Name y py)) spos.line X.env = pure true) (hi : DJ X R tg iter wi fi) (ok : BlkOk X.N X.env.scope scope own)
    (hg : ∀ (s : Shared) (H : Hp) (C : Addr) (cl : List (Str × Addr)) (fp : List Addr), DGn (X.blk s H scope (compEnvC scope cl C X.env) fp) R tg g tgf sl) (ng : NoG tgf) (hsl : ∀ i ∈ sl, i ∈ own.map (·.2))
    (ht : ∀ (s : Shared) (H : Hp) (C : Addr) (cl : List (Str × Addr)) (fp : List Addr), DTs (X.blk s H scope (compEnvC scope cl C X.env) fp) R ifs tt ft)
    (he : ∀ (s : Shared) (H : Hp) (C : Addr) (cl : List (Str × Addr)) (fp : List Addr), DE (X.blk s H scope (compEnvC scope cl C X.env) fp) R elt te fe) (hs : ∀ x, foldedSetIterable iter X.env x = pure x := by intro _; rfl) :
    PS X (.Assign [.Name y py] (.ListComp elt [⟨tg, iter, ifs, 0⟩] scope pos) spos) (tAsg (tLc wi g tt te (own.map (·.2))) (gName i)) ∧ RefN R (tLc wi g tt te (own.map (·.2))) (eLc fi (own.map (·.2)) tgf ft fe) :=
  ⟨ps_setLc hc hN hy hyl hsw hi.pi ok (fun s H C cl fp => (hg s H C cl fp).pg) (fun s H C cl fp => (ht s H C cl fp).pt) (fun s H C cl fp => (he s H C cl fp).pe) hs,
    ref_lc hsl hi.rf (hg X.s_0 X.H_0 0 [] []).rf ng.1 ng.2 (ht X.s_0 X.H_0 0 [] []).rf (he X.s_0 X.H_0 0 [] []).rf⟩
theorem ds_lc {i : Nat} {st : Stmt} {t : TE} {f : FE W} (h : PS X st (tAsg t (gName i)) ∧ RefN R t f) : DS X R st (tAsg t (gName i)) (sSet i f) := ⟨h.1, ref_set i h.2.e⟩
theorem ds_lcN {i : Nat} {st : Stmt} {t : TE} {f : FE W} (h : PS X st (tAsg t (gName i)) ∧ RefN R t f) : DS X R st (tAsg t (gName i)) (sSetN i f) := ⟨h.1, ref_setN i h.2⟩
end
end Cw

namespace Cw
open PySem PySem.Spec PyProof.Rows L2
section
variable {W : Type} {R : Rsc W} {F H F1 H1 : Hp} {w w1 : W} {X : Cx} {B : Bs} {η : EnvD} {σ : L2.St}
variable {e a b : Expr} {te ta tb : TE} {fe fa fb : FE W} {pos p apos cpos : Pos}

/-! ### x.append(e), x.extend(e), x[i] = e of a list in a slot -/
def ownL (η : EnvD) (i : Nat) : Option (List D) := match η[i]? with
  | some (.ow (.list xs)) => some xs
  | _ => none
theorem ownL_some {i : Nat} {xs : List D} (h : ownL η i = some xs) : η[i]? = some (Slot.ow (.list xs)) := by
  unfold ownL at h
  split at h
  · rename_i ys e
    cases h
    exact e
  · cases h
theorem StOk.owL (S : StOk R B η w σ F H) {i : Nat} {xs : List D} (h : ownL η i = some xs) : ∃ q vs, σ[i]? = some (some (V.ref q)) ∧ H q = some (.lst vs) ∧ DnL F vs xs ∧ F q = none ∧ ¬ R.foot q := by
  obtain ⟨q, o, h1, h2, h3, h4, h5, h6⟩ := S.ow (ownL_some h)
  cases h3 with
  | lst hd => exact ⟨q, _, h1, h2, hd, h4, h6⟩
def sApp (i : Nat) (f : FE W) : FS W := fun η w => match ownL η i with
  | some xs => bindM (f η w) fun d w1 => match okLen xs.length with
    | true => .ok (.nx (η.set i (.ow (.list (xs ++ [d])))), w1)
    | false => .stk
  | none => .stk
theorem ref_app {K : PySem.W.Frag} {i : Nat} (he : RefE R te fe) : RefS R (tDrop (tBM K "list" rAppend (tVar i) (tCons te tNil))) (sApp i fe) := fun B η w σ F H S Dd p => by
  unfold sApp at p
  split at p
  · rename_i xs z
    obtain ⟨q, vs, h1, h2, h3, h4, h5⟩ := S.owL z
    refine ⟨_, h1, .inl ⟨rfl, vs, SqL.of h2⟩, he B η w σ F H S _ (p.bind S fun d w1 F1 H1 S1 e1 p v hv => ?_)⟩
    split at p
    · rename_i hl
      have h2' : H1 q = some (.lst vs) := e1.keep h5 (.inl h4) h2
      refine ⟨q, vs, v, rfl, rfl, h2', by rw [h3.len]; exact line_lt (okLen_le hl), ?_⟩
      exact p _ F1 _ (S1.write (ownL_some z) h1 (.lst ((h3.mono e1.mono).append (.one hv))))
    · exact p.elim
  · exact p.elim
def sExt (i : Nat) (f : FE W) : FS W := fun η w => match ownL η i with
  | some xs => bindM (f η w) fun d w1 => match d with
    | .list ys => match okLen (xs.length + ys.length) with
      | true => .ok (.nx (η.set i (.ow (.list (xs ++ ys)))), w1)
      | false => .stk
    | _ => .stk
  | none => .stk
theorem ref_ext {K : PySem.W.Frag} {i : Nat} (he : RefE R te fe) : RefS R (tDrop (tBM K "list" rExtend (tVar i) (tCons te tNil))) (sExt i fe) := fun B η w σ F H S Dd p => by
  unfold sExt at p
  split at p
  · rename_i xs z
    obtain ⟨q, vs, h1, h2, h3, h4, h5⟩ := S.owL z
    refine ⟨_, h1, .inl ⟨rfl, vs, SqL.of h2⟩, he B η w σ F H S _ (p.bind S fun d w1 F1 H1 S1 e1 p v hv => ?_)⟩
    split at p
    · split at p
      · rename_i hl
        have h2' : H1 q = some (.lst vs) := e1.keep h5 (.inl h4) h2
        cases hv with
        | lst hf hd =>
          refine ⟨q, _, vs, _, rfl, rfl, h2', S1.wok.at hf id, by rw [h3.len, hd.len]; exact line_of (okLen_le hl), ?_⟩
          exact p _ F1 _ (S1.write (ownL_some z) h1 (.lst ((h3.mono e1.mono).append hd)))
      · exact p.elim
    · exact p.elim
  · exact p.elim
theorem ds_app (i : Nat) {x : Str} {xpos : Pos} (hN : X.N[i]? = some x := by rfl) (hv : Vis X.env.scope x := by first | exact Or.inl rfl | exact Or.inr (Or.inl rfl) | exact Or.inr (Or.inr rfl)) (he : DE X R e te fe)
    (hb : attributeBase (.Name x xpos) "append" X.env (eval (.Name x xpos) X.env) = eval (.Name x xpos) X.env := by rfl) (hf : ((backTo cpos (starEach (e :: []) X.env)).all (fun x => !x.1) && (backToKw cpos (keywordEach [] X.env)).all (fun x => x.1.isSome)
      && decide ((e :: []).length + ([] : List Keyword).length + (if ([] : List Keyword).isEmpty then 0 else 1) < 30)) = true := by rfl) (hl : (apos.endLine == cpos.line) = true := by rfl) (hs : starEach (e :: []) X.env = (false, eval e X.env) :: starEach [] X.env := by rfl)
    (hp : (backTo cpos (starEach [] X.env)).any (·.1) = false := by rfl) (hsw : swapsWith (.Call (.Attribute (.Name x xpos) "append" apos) [e] [] cpos) none pos.line X.env = pure false := by rfl) (hd : (x == ("__debug__" : Str)) = false := by decide) (hcd : (x == ("__classdict__" : Str)) = false := by decide) :
    DS X R (.Expr (.Call (.Attribute (.Name x xpos) "append" apos) [e] [] cpos) pos) (tDrop (tBM X.K "list" rAppend (tVar i) (tCons te tNil))) (sApp i fe) :=
  ⟨ps_expr (pe_bm PySem.F.plainAttrs_list PySem.F.slot_list_append PySem.F.type_list_append mt_append (pe_var hN hv hd hcd) (pa_cons he.pe pa_nil hs) hb hf hl hs hp) hsw, ref_app he.rf⟩
theorem ds_ext (i : Nat) {x : Str} {xpos : Pos} (hN : X.N[i]? = some x := by rfl) (hv : Vis X.env.scope x := by first | exact Or.inl rfl | exact Or.inr (Or.inl rfl) | exact Or.inr (Or.inr rfl)) (he : DE X R e te fe)
    (hb : attributeBase (.Name x xpos) "extend" X.env (eval (.Name x xpos) X.env) = eval (.Name x xpos) X.env := by rfl) (hf : ((backTo cpos (starEach (e :: []) X.env)).all (fun x => !x.1) && (backToKw cpos (keywordEach [] X.env)).all (fun x => x.1.isSome)
      && decide ((e :: []).length + ([] : List Keyword).length + (if ([] : List Keyword).isEmpty then 0 else 1) < 30)) = true := by rfl) (hl : (apos.endLine == cpos.line) = true := by rfl) (hs : starEach (e :: []) X.env = (false, eval e X.env) :: starEach [] X.env := by rfl)
    (hp : (backTo cpos (starEach [] X.env)).any (·.1) = false := by rfl) (hsw : swapsWith (.Call (.Attribute (.Name x xpos) "extend" apos) [e] [] cpos) none pos.line X.env = pure false := by rfl) (hd : (x == ("__debug__" : Str)) = false := by decide) (hcd : (x == ("__classdict__" : Str)) = false := by decide) :
    DS X R (.Expr (.Call (.Attribute (.Name x xpos) "extend" apos) [e] [] cpos) pos) (tDrop (tBM X.K "list" rExtend (tVar i) (tCons te tNil))) (sExt i fe) :=
  ⟨ps_expr (pe_bm PySem.F.plainAttrs_list PySem.F.slot_list_extend PySem.F.type_list_extend mt_extend (pe_var hN hv hd hcd) (pa_cons he.pe pa_nil hs) hb hf hl hs hp) hsw, ref_ext he.rf⟩
/-- x[k] = .. as a target -/
def tgSub (i : Nat) (fk : FE W) : TgF W := fun d η w => match ownL η i with
  | some xs => bindM (fk η w) fun k w1 => match k with
    | .int k => match ixN xs.length k with
      | some j => .ok (η.set i (.ow (.list (xs.set j d))), w1)
      | none => .stk
    | _ => .stk
  | none => .stk
theorem dg_sub (i : Nat) {x : Str} {xpos : Pos} {k : Expr} {tk : TE} {fk : FE W} (hN : X.N[i]? = some x := by rfl) (hv : Vis X.env.scope x := by first | exact Or.inl rfl | exact Or.inr (Or.inl rfl) | exact Or.inr (Or.inr rfl)) (hk : DQ X R k tk fk)
    (hd : (x == ("__debug__" : Str)) = false := by decide) (hcd : (x == ("__classdict__" : Str)) = false := by decide)
    (ha : ∀ v, assign (.Subscript (.Name x xpos) k pos) X.env v = (do
      let ov ← holding [v] (eval (.Name x xpos) X.env)
      let iv ← holding [v, ov] (eval k X.env)
      standAt pos
      holding [v, ov, iv] (setItem ov iv v)
      release [v, ov, iv] []) := by intro _; rfl) : DG X R (.Subscript (.Name x xpos) k pos) (gSub (tVar i) tk rSetL) (tgSub i fk) := ⟨pg_sub (pe_var hN hv hd hcd) hk.pe set_list ha, fun B η w σ F H v d P S hv p => by
  unfold tgSub at p
  split at p
  · rename_i xs z
    obtain ⟨q, vs, h1, h2, h3, h4, h5⟩ := S.owL z
    refine ⟨_, h1, hk.rf B η w σ F H S _ ?_⟩
    revert p
    generalize fk η w = r
    intro p
    match r, p with
    | .ok (.int kk, w1), p =>
      intro F1 H1 e1 k1 y hy
      have S1 := S.go e1 k1
      simp only [bindM] at p
      split at p
      · rename_i j hj
        refine ⟨q, vs, kk, j, rfl, hy.int, e1.keep h5 (.inl h4) h2, by rw [h3.len]; exact hj, ?_⟩
        exact p _ F1 _ (S1.write (ownL_some z) h1 (.lst ((h3.mono e1.mono).set (hv.mono e1.mono) j))) e1.mono
      · exact p.elim
    | .ok (.none, w1), p => exact p.elim
    | .ok (.bool _, w1), p => exact p.elim
    | .ok (.str _, w1), p => exact p.elim
    | .ok (.list _, w1), p => exact p.elim
    | .ok (.tuple _, w1), p => exact p.elim
    | .ok (.dict _, w1), p => exact p.elim
    | .exc c, p => exact p
    | .stk, p => exact p.elim
  · exact p.elim⟩
/-- target = value -/
def sAsg (f : FE W) (tgf : TgF W) : FS W := fun η w => bindM (f η w) fun d w1 => bindM (tgf d η w1) fun η' w2 => .ok (.nx η', w2)
theorem ds_asg {tg : Expr} {g : TG} {tgf : TgF W} (he : DE X R e te fe) (hg : DG X R tg g tgf) (hs : swapsWithSole [tg] e pos.line X.env = pure false := by rfl) (hw : swappedStores [tg] e X.env = pure none := by rfl)
    (h1 : (assignEach [tg] X.env).map (·.2) = [assign tg X.env] := by rfl) : DS X R (.Assign [tg] e pos) (tAsg te g) (sAsg fe tgf) := ⟨ps_asg he.pe hg.pg hs hw h1, fun B η w σ F H S Dd p =>
  he.rf B η w σ F H S _ (p.bind S fun d w1 F1 H1 S1 e1 p v hv => by
    refine hg.rf B η w1 σ F1 H1 v d _ S1 hv ?_
    revert p
    generalize tgf d η w1 = r
    intro p
    match r, p with
    | .ok (η', w2), p => exact fun σ1 F2 H2 S2 _ => p σ1 F2 H2 S2
    | .exc c, p => exact p
    | .stk, p => exact p)⟩
/-- x op= e -/
def sAug (i : Nat) (op : D → D → Res D) (f : FE W) : FS W := fun η w => match η[i]? with
  | some (.fr d) => bindM (f η w) fun y w1 => bindM (liftM (op d y) w1) fun z w2 => .ok (.nx (η.set i (.fr z)), w2)
  | _ => .stk
def RIp (R : Rsc W) (ti : TIp) (f : D → D → Res D) : Prop := ∀ {F H : Hp} {w : W} {x y : V} {a b : D} {Q : VK}, Wok R F H w → Dn F x a → Sq R F H y b → Post R F H (fun _ => False) (liftM (f a b) w) (PV Q) → ti x y H Q
theorem rip_i {g : Int → Int → Int} : RIp R (ipI g) (i2 g) := by
  intro F H w x y a b Q k hx hy p
  unfold i2 at p
  split at p
  · cases hx; exact ⟨_, _, rfl, hy.int, p.here k _ (.int _)⟩
  · exact p.elim
theorem ds_aug {i : Nat} {x : Str} {op : Operator} {ti : TIp} {f : D → D → Res D} {pos' : Pos} (hN : X.N.Nodup) (hi : X.N[i]? = some x) (hx : Loc X.env.scope x) (he : DQ X R e te fe) (ho : PIp X op ti) (hr : RIp R ti f) (nx : NoX2 f) (hf : X.fn x = true ∨ X.env.scope.names.lookup x = some .local := by first | exact .inl rfl | exact .inr rfl | assumption) :
    DS X R (.AugAssign (.Name x pos') op e pos) (tAug i te ti) (sAug i f fe) := ⟨ps_aug hN hi hx he.pe ho hf, fun B η w σ F H S Dd p => by
  unfold sAug at p
  split at p
  · rename_i d hd
    obtain ⟨v, h1, h2⟩ := S.fr hd
    refine ⟨v, h1, he.rf B η w σ F H S _ (p.bind S fun y w1 F1 H1 S1 e1 p u hu => ?_)⟩
    exact hr S1.wok (h2.mono e1.mono) hu (Post.nox (Xc := B.X) (nx d y) (p.bind S1 fun z w2 F2 H2 S2 e2 p t ht => p _ F2 H2 (S2.setFr i ht)))
  · exact p.elim⟩
/-- a, b = x, y -/
inductive Slv (Hs F H : Hp) : List Slot → List V → List Addr → Prop
  | nil : Slv Hs F H [] [] []
  | fr {d : D} {v : V} {sl : List Slot} {vs : List V} {ps : List Addr} : Dn F v d → Slv Hs F H sl vs ps → Slv Hs F H (.fr d :: sl) (v :: vs) ps
  | ow {d : D} {p : Addr} {o : HO} {sl : List Slot} {vs : List V} {ps : List Addr} : Hs p = none → H p = some o → OwO F d o → F p = none → p ∉ ps → Slv Hs F H sl vs ps → Slv Hs F H (.ow d :: sl) (.ref p :: vs) (p :: ps)
theorem Slv.hs {Hs F H : Hp} {sl : List Slot} {vs : List V} {ps : List Addr} (h : Slv Hs F H sl vs ps) : ∀ p ∈ ps, Hs p = none ∧ H p ≠ none := by
  induction h with
  | nil => intro p h; cases h
  | fr _ _ ih => exact ih
  | ow h1 h2 _ _ _ _ ih =>
    intro p hp
    rcases List.mem_cons.mp hp with rfl | hp
    · exact ⟨h1, by rw [h2]; simp⟩
    · exact ih p hp
theorem Slv.weak {Hs Hs' F H : Hp} {sl : List Slot} {vs : List V} {ps : List Addr} (h : Slv Hs F H sl vs ps) (i : ∀ q, Hs q = none → Hs' q = none) : Slv Hs' F H sl vs ps := by
  induction h with
  | nil => exact .nil
  | fr h _ ih => exact .fr h ih
  | ow h1 h2 h3 h4 h5 _ ih => exact .ow (i _ h1) h2 h3 h4 h5 ih
abbrev FM (W : Type) := EnvD → W → Res (List Slot × W)
structure DM (X : Cx) (R : Rsc W) (es : List Expr) (t : TA) (f : FM W) : Prop where
  pa : PA X es t
  rf : ∀ (B : Bs) (η : EnvD) (w : W) (σ : L2.St) (F H : Hp), StOk R B η w σ F H → ∀ Q : List V → Hp → Prop, Post R F H B.X (f η w) (fun sl F' H' => ∀ vs ps, Slv H F' H' sl vs ps → Q vs H') → t σ H Q
def mNil : FM W := fun _ w => .ok ([], w)
def mFr (f : FE W) (r : FM W) : FM W := fun η w => bindM (f η w) fun d w1 => bindM (r η w1) fun sl w2 => .ok (.fr d :: sl, w2)
def mOw (f : FE W) (r : FM W) : FM W := fun η w => bindM (f η w) fun d w1 => bindM (r η w1) fun sl w2 => .ok (.ow d :: sl, w2)
variable {es : List Expr} {t : TA} {fm : FM W}
theorem dm_nil : DM X R [] tNil (mNil : FM W) := ⟨pa_nil, fun B η w σ F H S Q p => p.here S.wok _ _ .nil⟩
theorem dm_fr (he : DE X R e te fe) (hr : DM X R es t fm) (hs : starEach (e :: es) X.env = (false, eval e X.env) :: starEach es X.env := by rfl) : DM X R (e :: es) (tCons te t) (mFr fe fm) := ⟨pa_cons he.pe hr.pa hs, fun B η w σ F H S Q p =>
  he.rf B η w σ F H S _ (p.bind fun d w1 F1 H1 e1 k p v hv => hr.rf B η w1 σ F1 H1 (S.go e1 k) _ (p.bind fun sl w2 F2 H2 e2 k2 p vs ps hsl => p.here k2 _ _ (.fr (hv.mono e2.mono) (hsl.weak fun q => e1.none0 k))))⟩
theorem dm_ow (he : DN X R e te fe) (hr : DM X R es t fm) (hs : starEach (e :: es) X.env = (false, eval e X.env) :: starEach es X.env := by rfl) : DM X R (e :: es) (tCons te t) (mOw fe fm) := ⟨pa_cons he.pe hr.pa hs, fun B η w σ F H S Q p =>
  he.rf B η w σ F H S _ (p.bind fun d w1 F1 H1 e1 k p q o hn hq ho hF => hr.rf B η w1 σ F1 H1 (S.go e1 k) _ (p.bind fun sl w2 F2 H2 e2 k2 p vs ps hsl => by
    have nf : ¬ R.foot q := S.wok.notfoot hn
    refine p.here k2 _ _ (.ow hn (e2.keep nf (.inl hF) hq) (ho.mono e2.mono) (e2.fresh nf ho.nofix hq hF) (fun hm => ?_) (hsl.weak fun q => e1.none0 k))
    have := (hsl.hs q hm).1
    rw [hq] at this; cases this))⟩
/-- storing such values -/
theorem StOk.setSl (S : StOk R B η w σ F H) (i : Nat) {Hs : Hp} {s : Slot} {v : V} {sl : List Slot} {vs : List V} {ps : List Addr} (h : Slv Hs F H (s :: sl) (v :: vs) ps) (hB : ∀ q, Hs q = none → B.H q = none ∧ ¬ R.foot q) (hd : ∀ {j : Nat} {e : D} {q : Addr}, η[j]? = some (Slot.ow e) → q ∈ ps → σ[j]? ≠ some (some (V.ref q))) :
    StOk R B (η.set i s) w (σ.set i (some v)) F H ∧ ∃ ps', Slv Hs F H sl vs ps' ∧ ∀ {j : Nat} {e : D} {q : Addr}, (η.set i s)[j]? = some (Slot.ow e) → q ∈ ps' → (σ.set i (some v))[j]? ≠ some (some (V.ref q)) := by
  cases h with
  | fr h t =>
    refine ⟨S.setFr i h, _, t, fun {j e q} hj hq => ?_⟩
    rcases get_set hj with ⟨rfl, z, hl⟩ | ⟨z, hj⟩
    · cases z
    · rw [List.getElem?_set_ne z]; exact hd hj hq
  | ow h1 h2 h3 h4 h5 t =>
    rename_i d p o ps'
    refine ⟨S.setOw i h2 h3 h4 (hB p h1).1 (hB p h1).2 (fun {j e} hj => hd hj List.mem_cons_self), _, t, fun {j e q} hj hq => ?_⟩
    rcases get_set hj with ⟨rfl, z, hl⟩ | ⟨z, hj⟩
    · rw [List.getElem?_set_self (by rw [← S.len]; exact hl)]
      intro z
      cases z
      exact h5 hq
    · rw [List.getElem?_set_ne z]; exact hd hj (List.mem_cons_of_mem _ hq)
theorem Slv.start (S : StOk R B η w σ F H) {sl : List Slot} {vs : List V} {ps : List Addr} (h : Slv H F1 H1 sl vs ps) (e1 : Ext R F H F1 H1) : (∀ q, H q = none → B.H q = none ∧ ¬ R.foot q) ∧ ∀ {j : Nat} {e : D} {q : Addr}, η[j]? = some (Slot.ow e) → q ∈ ps → σ[j]? ≠ some (some (V.ref q)) := by
  refine ⟨fun q hq => ⟨S.ext.none0 S.wok hq, S.wok.notfoot hq⟩, fun {j e q} hj hq z => ?_⟩
  obtain ⟨p2, o2, g1, g2, _⟩ := S.ow hj
  rw [z] at g1
  cases g1
  have := (h.hs q hq).1
  rw [g2] at this; cases this
theorem Slv.one {Hs : Hp} {a : Slot} {vs : List V} {ps : List Addr} (h : Slv Hs F H [a] vs ps) : ∃ v, vs = [v] := by
  cases h with
  | fr _ t => cases t; exact ⟨_, rfl⟩
  | ow _ _ _ _ _ t => cases t; exact ⟨_, rfl⟩
theorem Slv.two {Hs : Hp} {a b : Slot} {vs : List V} {ps : List Addr} (h : Slv Hs F H [a, b] vs ps) : ∃ v u, vs = [v, u] := by
  cases h with
  | fr _ t => obtain ⟨u, rfl⟩ := t.one; exact ⟨_, _, rfl⟩
  | ow _ _ _ _ _ t => obtain ⟨u, rfl⟩ := t.one; exact ⟨_, _, rfl⟩
def sPar (i j : Nat) (f : FM W) : FS W := fun η w => bindM (f η w) fun sl w1 => match sl with
  | [a, b] => .ok (.nx ((η.set i a).set j b), w1)
  | _ => .stk
theorem ds_par {i j : Nat} {x y : Str} {px py pt : Pos} {kt k2 pt2} (hc : X.calm = true) (hN : X.N.Nodup) (hi : X.N[i]? = some x) (hj : X.N[j]? = some y) (hij : i ≠ j)
    (hx : X.env.scope.names.lookup x = some .local) (hy : X.env.scope.names.lookup y = some .local) (ha : DM X R [a, b] t fm)
    (hw : swappedStores [.Tuple [.Name x px, .Name y py] kt pt] (.Tuple [a, b] k2 pt2) X.env = pure (some [x, y]))
    (hs : swapsWithSole [.Tuple [.Name x px, .Name y py] kt pt] (.Tuple [a, b] k2 pt2) pos.line X.env = pure false := by rfl) :
    DS X R (.Assign [.Tuple [.Name x px, .Name y py] kt pt] (.Tuple [a, b] k2 pt2) pos) (tPar i j t) (sPar i j fm) := ⟨ps_par hc hN hi hj hij hx hy ha.pa hw hs, fun B η w σ F H S Dd p =>
  ha.rf B η w σ F H S _ (p.bind S fun sl w1 F1 H1 S1 e1 p vs ps hsl => by
    split at p
    · obtain ⟨hB, hd⟩ := Slv.start S hsl e1
      obtain ⟨v, u, rfl⟩ := hsl.two
      obtain ⟨S2, ps2, hsl2, hd2⟩ := S1.setSl i hsl hB hd
      obtain ⟨S3, _⟩ := S2.setSl j hsl2 hB hd2
      exact ⟨v, u, rfl, p _ F1 H1 S3⟩
    · exact p.elim)⟩

/-! ### dicts -/
def skey : D → Option Key
  | .int i => some (.inl i)
  | .str x => some (.inr x)
  | _ => none
def skeys : List D → Option (List Key)
  | [] => some []
  | d :: r => match skey d, skeys r with
    | some k, some ks => some (k :: ks)
    | _, _ => none
def tkey : D → Option (List Key)
  | .tuple xs => skeys xs
  | _ => none
theorem skey_some {d : D} {k : Key} (h : skey d = some k) : d = keyD k := by
  cases d <;> simp [skey] at h <;> subst h <;> rfl
theorem skeys_some : ∀ {ds : List D} {ks : List Key}, skeys ds = some ks → ds = ks.map keyD
  | [], ks, h => by cases h; rfl
  | d :: r, ks, h => by
    unfold skeys at h
    split at h
    · rename_i k ks' h1 h2
      cases h
      rw [skey_some h1, skeys_some h2]; rfl
    · cases h
theorem tkey_some {d : D} {ks : List Key} (h : tkey d = some ks) : d = .tuple (ks.map keyD) := by
  cases d <;> simp [tkey] at h
  rw [skeys_some h]
/-- == of keys -/
def keq (a b : D) : Bool := PyData.eqv a b
theorem keq_key (a b : Key) : keq (keyD a) (keyD b) = decide (a = b) := by
  cases a <;> cases b <;> simp [keq, keyD, PyData.eqv]
  · rename_i i j
    by_cases h : i = j
    · subst h; simp
    · simp [h]
  · rename_i i j
    by_cases h : i = j
    · subst h; simp
    · simp [h]
theorem keq_keys : ∀ a b : List Key, PyData.eqvAll (a.map keyD) (b.map keyD) = decide (a = b)
  | [], [] => by simp [PyData.eqvAll]
  | [], _ :: _ => by simp [PyData.eqvAll]
  | _ :: _, [] => by simp [PyData.eqvAll]
  | x :: r, y :: s => by
    have h1 : PyData.eqv (keyD x) (keyD y) = decide (x = y) := keq_key x y
    simp only [List.map_cons, PyData.eqvAll, h1, keq_keys r s, List.cons.injEq, Bool.decide_and]
theorem keq_tup (a b : List Key) : keq (.tuple (a.map keyD)) (.tuple (b.map keyD)) = decide (a = b) := by
  simp only [keq, PyData.eqv]
  exact keq_keys a b
def lookD (kvs : List (D × D)) (k : D) : Option D := match kvs with
  | [] => none
  | (k', v) :: r => match keq k' k with
    | true => some v
    | false => lookD r k
def hasD (kvs : List (D × D)) (k : D) : Bool := match kvs with
  | [] => false
  | (k', v) :: r => keq k' k || hasD r k
def replD (kvs : List (D × D)) (k v : D) : List (D × D) := match kvs with
  | [] => []
  | (k', u) :: r => match keq k' k with
    | true => (k', v) :: replD r k v
    | false => (k', u) :: replD r k v
def putD (kvs : List (D × D)) (k v : D) : List (D × D) := match hasD kvs k with
  | true => replD kvs k v
  | false => kvs ++ [(k, v)]
/-- what stands at a key: none: not asked -/
def dgetD (kvs : List (D × D)) (k : D) : Option (Option D) := match kvs with
  | (.none, _) :: r => match tkey k with
    | some _ => some (lookD r k)
    | none => none
  | r => match skey k with
    | some _ => some (lookD r k)
    | none => none
def dputD (kvs : List (D × D)) (k v : D) : Option (List (D × D)) := match kvs with
  | (.none, z) :: r => match tkey k with
    | some _ => some ((.none, z) :: putD r k v)
    | none => none
  | r => match skey k with
    | some _ => some (putD r k v)
    | none => none
inductive ORel (F : Hp) : Option V → Option D → Prop
  | none : ORel F none none
  | some {v : V} {d : D} : Dn F v d → ORel F (some v) (some d)
theorem DnK.look : ∀ {kvs : List (Key × V)} {ds : List (D × D)} (k : Key), DnK F kvs ds → ORel F (valV kvs k) (lookD ds (keyD k))
  | _, _, k, .nil => .none
  | _, _, k, .cons (k := k') h t => by
    unfold lookD
    rw [keq_key]
    by_cases e : k' = k
    · rw [valV_pos e, decide_eq_true e]; exact .some h
    · rw [valV_neg e, decide_eq_false e]; exact DnK.look k t
theorem DnT.look : ∀ {kvs : List (List Key × V)} {ds : List (D × D)} (k : List Key), DnT F kvs ds → ORel F (valV kvs k) (lookD ds (.tuple (k.map keyD)))
  | _, _, k, .nil => .none
  | _, _, k, .cons (k := k') h t => by
    unfold lookD
    rw [keq_tup]
    by_cases e : k' = k
    · rw [valV_pos e, decide_eq_true e]; exact .some h
    · rw [valV_neg e, decide_eq_false e]; exact DnT.look k t
theorem DnK.has : ∀ {kvs : List (Key × V)} {ds : List (D × D)} (k : Key), DnK F kvs ds → (kvs.any fun kv => decide (kv.1 = k)) = hasD ds (keyD k)
  | _, _, k, .nil => rfl
  | _, _, k, .cons (k := k') h t => by
    unfold hasD
    rw [List.any_cons, keq_key, DnK.has k t]
theorem DnT.has : ∀ {kvs : List (List Key × V)} {ds : List (D × D)} (k : List Key), DnT F kvs ds → (kvs.any fun kv => decide (kv.1 = k)) = hasD ds (.tuple (k.map keyD))
  | _, _, k, .nil => rfl
  | _, _, k, .cons (k := k') h t => by
    unfold hasD
    rw [List.any_cons, keq_tup, DnT.has k t]
theorem DnK.repl {v : V} {d : D} (hv : Dn F v d) : ∀ {kvs : List (Key × V)} {ds : List (D × D)} (k : Key), DnK F kvs ds → DnK F (kvs.map fun kv => if kv.1 = k then (kv.1, v) else kv) (replD ds (keyD k) d)
  | _, _, k, .nil => .nil
  | _, _, k, .cons (k := k') h t => by
    unfold replD
    rw [List.map_cons, keq_key]
    by_cases e : k' = k
    · rw [if_pos (show (k', _).1 = k from e), decide_eq_true e]; exact .cons hv (DnK.repl hv k t)
    · rw [if_neg (show ¬ (k', _).1 = k from e), decide_eq_false e]; exact .cons h (DnK.repl hv k t)
theorem DnT.repl {v : V} {d : D} (hv : Dn F v d) : ∀ {kvs : List (List Key × V)} {ds : List (D × D)} (k : List Key), DnT F kvs ds → DnT F (kvs.map fun kv => if kv.1 = k then (kv.1, v) else kv) (replD ds (.tuple (k.map keyD)) d)
  | _, _, k, .nil => .nil
  | _, _, k, .cons (k := k') h t => by
    unfold replD
    rw [List.map_cons, keq_tup]
    by_cases e : k' = k
    · rw [if_pos (show (k', _).1 = k from e), decide_eq_true e]; exact .cons hv (DnT.repl hv k t)
    · rw [if_neg (show ¬ (k', _).1 = k from e), decide_eq_false e]; exact .cons h (DnT.repl hv k t)
theorem DnK.snoc {v : V} {d : D} (hv : Dn F v d) : ∀ {kvs : List (Key × V)} {ds : List (D × D)} (k : Key), DnK F kvs ds → DnK F (kvs ++ [(k, v)]) (ds ++ [(keyD k, d)])
  | _, _, k, .nil => .cons hv .nil
  | _, _, k, .cons h t => .cons h (DnK.snoc hv k t)
theorem DnT.snoc {v : V} {d : D} (hv : Dn F v d) : ∀ {kvs : List (List Key × V)} {ds : List (D × D)} (k : List Key), DnT F kvs ds → DnT F (kvs ++ [(k, v)]) (ds ++ [(.tuple (k.map keyD), d)])
  | _, _, k, .nil => .cons hv .nil
  | _, _, k, .cons h t => .cons h (DnT.snoc hv k t)
theorem DnK.put {v : V} {d : D} (hv : Dn F v d) {kvs : List (Key × V)} {ds : List (D × D)} (k : Key) (h : DnK F kvs ds) : DnK F (putK kvs k v) (putD ds (keyD k) d) := by
  unfold putK putD
  rw [← h.has k]
  split
  · rename_i e; rw [e]; exact h.repl hv k
  · rename_i e
    rw [Bool.not_eq_true] at e
    rw [e]; exact h.snoc hv k
theorem DnT.put {v : V} {d : D} (hv : Dn F v d) {kvs : List (List Key × V)} {ds : List (D × D)} (k : List Key) (h : DnT F kvs ds) : DnT F (putK kvs k v) (putD ds (.tuple (k.map keyD)) d) := by
  unfold putK putD
  rw [← h.has k]
  split
  · rename_i e; rw [e]; exact h.repl hv k
  · rename_i e
    rw [Bool.not_eq_true] at e
    rw [e]; exact h.snoc hv k
/-- a written key in the heap -/
theorem DnL.keys : ∀ {vs : List V} {ks : List Key}, DnL F vs (ks.map keyD) → vs = ks.map kV
  | _, [], .nil => rfl
  | _, .inl i :: r, .cons h t => by cases h; rw [DnL.keys t]; rfl
  | _, .inr x :: r, .cons h t => by cases h; rw [DnL.keys t]; rfl
theorem Sq.key {v : V} {k : Key} (h : Sq R F H v (keyD k)) : v = kV k := by
  cases k with
  | inl i => exact h.int
  | inr x => exact h.str
/-- nothing below a key of the module's own -/
theorem DnK.nohead {kvs : List (Key × V)} {z : D} {ds : List (D × D)} (h : DnK F kvs ((.none, z) :: ds)) : False := by
  generalize e : ((PyData.none, z) :: ds) = l at h
  cases h with
  | nil => cases e
  | cons h t =>
    rename_i k _ _ _ _
    cases e' : k <;> rw [e'] at e <;> simp [keyD] at e
theorem Sq.dget (k : Wok R F H w) {x y : V} {kvs : List (D × D)} {kd : D} {o : Option D} (hx : Sq R F H x (.dict kvs)) (hy : Sq R F H y kd) (e : dgetD kvs kd = some o) : ∃ a ov, x = .ref a ∧ DGet H a y ov ∧ ORel F ov o := by
  rcases hx.dicK k with ⟨a, ks, rfl, hr, hd⟩ | ⟨a, ks, r, rfl, hr, rfl, hd⟩
  · have e' : ∃ k', skey kd = some k' ∧ o = lookD kvs kd := by
      unfold dgetD at e
      split at e
      · exact (hd.nohead).elim
      · split at e
        · rename_i k' h'
          exact ⟨k', h', (Option.some.inj e).symm⟩
        · cases e
    obtain ⟨k', h1, rfl⟩ := e'
    obtain rfl := skey_some h1
    exact ⟨a, _, rfl, .inl ⟨ks, k', hr, hy.key, rfl⟩, hd.look k'⟩
  · unfold dgetD at e
    simp only at e
    split at e
    · rename_i k' h'
      obtain rfl := tkey_some h'
      cases e
      obtain ⟨b, us, rfl, _, hb, hds⟩ := hy.tup k
      exact ⟨a, _, rfl, .inr ⟨ks, k', b, hr, rfl, by rw [← hds.keys]; exact hb, rfl⟩, hd.look k'⟩
    · cases e
def eDget (fa fb : FE W) : FE W := e2 (fun d k => match d with
  | .dict kvs => match dgetD kvs k with
    | some (some v) => .ok v
    | _ => .stk
  | _ => .stk) fa fb
def eDin (neg : Bool) (fa fb : FE W) : FE W := e2 (fun k d => match d with
  | .dict kvs => match dgetD kvs k with
    | some o => .ok (.bool (neg ^^ o.isSome))
    | _ => .stk
  | _ => .stk) fa fb
theorem ORel.isSome {ov : Option V} {o : Option D} (h : ORel F ov o) : ov.isSome = o.isSome := by cases h <;> rfl
theorem ref_dget (ha : RefQ R ta fa) (hb : RefQ R tb fb) : RefE R (tDGet ta tb) (eDget fa fb) := fun B η w σ F H S Q p =>
  ha B η w σ F H S _ (p.bind fun d w1 F1 H1 e k p v hv => hb B η w1 σ F1 H1 (S.go e k) _ (p.bind fun c w2 F2 H2 e2 k2 p u hu => by
    dsimp only at p
    split at p
    · split at p
      · rename_i kvs d' hg
        obtain ⟨a, ov, rfl, h1, h2⟩ := Sq.dget k2 (hv.go e2) hu hg
        cases h2 with
        | some h2 => exact ⟨a, _, rfl, h1, p.here k2 _ h2⟩
      · exact p.elim
    · exact p.elim))
theorem ref_din (ha : RefQ R ta fa) (hb : RefQ R tb fb) : RefE R (tDIn ta tb) (eDin false fa fb) := fun B η w σ F H S Q p =>
  ha B η w σ F H S _ (p.bind fun d w1 F1 H1 e k p v hv => hb B η w1 σ F1 H1 (S.go e k) _ (p.bind fun c w2 F2 H2 e2 k2 p u hu => by
    dsimp only at p
    split at p
    · split at p
      · rename_i kvs o hg
        obtain ⟨a, ov, rfl, h1, h2⟩ := Sq.dget k2 hu (hv.go e2) hg
        exact ⟨a, _, rfl, h1, by rw [h2.isSome]; rw [Bool.false_xor] at p; exact p.here k2 _ (.bl _)⟩
      · exact p.elim
    · exact p.elim))
theorem ref_dnin (ha : RefQ R ta fa) (hb : RefQ R tb fb) : RefE R (tDNotIn ta tb) (eDin true fa fb) := fun B η w σ F H S Q p =>
  ha B η w σ F H S _ (p.bind fun d w1 F1 H1 e k p v hv => hb B η w1 σ F1 H1 (S.go e k) _ (p.bind fun c w2 F2 H2 e2 k2 p u hu => by
    dsimp only at p
    split at p
    · split at p
      · rename_i kvs o hg
        obtain ⟨a, ov, rfl, h1, h2⟩ := Sq.dget k2 hu (hv.go e2) hg
        exact ⟨a, _, rfl, h1, by rw [h2.isSome]; rw [Bool.true_xor] at p; exact p.here k2 _ (.bl _)⟩
      · exact p.elim
    · exact p.elim))
theorem de_dget (hu : X.A.units + 1 < cLine) (ha : DQ X R a ta fa) (hb : DQ X R b tb fb) (hs : NoSl b := by exact fun _ _ => rfl) : DE X R (.Subscript a b pos) (tDGet ta tb) (eDget fa fb) := ⟨pe_dget hu ha.pe hb.pe hs, ref_dget ha.rf hb.rf⟩
theorem de_din (hu : X.A.units + 1 < cLine) (ha : DQ X R a ta fa) (hb : DQ X R b tb fb) (h1 : behindInMarks .In b = false := by with_unfolding_all rfl) : DE X R (.Compare a [.In] [b] pos) (tDIn ta tb) (eDin false fa fb) := ⟨pe_cmp (pc_din hu ha.pe hb.pe) h1, ref_din ha.rf hb.rf⟩
theorem de_dnin (hu : X.A.units + 1 < cLine) (ha : DQ X R a ta fa) (hb : DQ X R b tb fb) (h1 : behindInMarks .NotIn b = false := by with_unfolding_all rfl) : DE X R (.Compare a [.NotIn] [b] pos) (tDNotIn ta tb) (eDin true fa fb) := ⟨pe_cmp (pc_dnotin hu ha.pe hb.pe) h1, ref_dnin ha.rf hb.rf⟩
theorem dt_din (hu : X.A.units + 1 < cLine) (ha : DQ X R a ta fa) (hb : DQ X R b tb fb) (h1 : behindInMarks .In b = false := by with_unfolding_all rfl) : DT X R (.Compare a [.In] [b] pos) (tB (tDIn ta tb)) (tst (eDin false fa fb)) := ⟨pt_cmp (pc_din hu ha.pe hb.pe) h1, ref_test (ref_din ha.rf hb.rf)⟩
theorem dt_dnin (hu : X.A.units + 1 < cLine) (ha : DQ X R a ta fa) (hb : DQ X R b tb fb) (h1 : behindInMarks .NotIn b = false := by with_unfolding_all rfl) : DT X R (.Compare a [.NotIn] [b] pos) (tB (tDNotIn ta tb)) (tst (eDin true fa fb)) := ⟨pt_cmp (pc_dnotin hu ha.pe hb.pe) h1, ref_test (ref_dnin ha.rf hb.rf)⟩
/-- {}: keys ints and texts; tuples of these -/
theorem dn_newK : DN X R (.Dict [] [] pos) tDNewK (eC (.dict []) : FE W) := ⟨pe_dnewK, fun B η w σ F H S Q p q n => p _ _ (Ext.newO n) (S.wok.newO n) q _ n upd_same (.dK .nil) (S.wok.Fnone n)⟩
theorem dn_newT : DN X R (.Dict [] [] pos) tDNewT (eC (.dict [(.none, .none)]) : FE W) := ⟨pe_dnewT, fun B η w σ F H S Q p q n => p _ _ (Ext.newO n) (S.wok.newO n) q _ n upd_same (.dT .nil) (S.wok.Fnone n)⟩
/-- len of a dict with tuple keys -/
def lenT : List D → Res D
  | [.dict ((.none, _) :: r)] => .ok (.int r.length)
  | _ => .stk
def ownD (η : EnvD) (i : Nat) : Option (List (D × D)) := match η[i]? with
  | some (.ow (.dict xs)) => some xs
  | _ => none
theorem ownD_some {i : Nat} {xs : List (D × D)} (h : ownD η i = some xs) : η[i]? = some (Slot.ow (.dict xs)) := by
  unfold ownD at h
  split at h
  · rename_i ys e
    cases h
    exact e
  · cases h
/-- d[k] = v of a dict in a slot -/
def sDput (i : Nat) (fk fv : FE W) : FS W := fun η w => bindM (fv η w) fun v w1 => match ownD η i with
  | some kvs => bindM (fk η w1) fun k w2 => match dputD kvs k v with
    | some kvs' => match okLen kvs.length with
      | true => .ok (.nx (η.set i (.ow (.dict kvs'))), w2)
      | false => .stk
    | none => .stk
  | none => .stk
theorem ref_dput {i : Nat} {tk tv : TE} {fk fv : FE W} (hk : RefQ R tk fk) (hv : RefE R tv fv) : RefS R (sDPut (tVar i) tk tv) (sDput i fk fv) := fun B η w σ F H S Dd p =>
  hv B η w σ F H S _ (p.bind S fun d w1 F1 H1 S1 e1 p v hv => by
    split at p
    · rename_i kvs z
      obtain ⟨q, o, h1, h2, h3, h4, h5, h6⟩ := S1.ow (ownD_some z)
      refine ⟨_, h1, hk B η w1 σ F1 H1 S1 _ (p.bind S1 fun kd w2 F2 H2 S2 e2 p y hy => ?_)⟩
      split at p
      · rename_i kvs' hput
        split at p
        · rename_i hl
          have hq : H2 q = some o := e2.keep h6 (.inl h4) h2
          have h3' := h3.mono e2.mono
          have hv2 := hv.mono e2.mono
          cases h3' with
          | dK hd =>
            rename_i ks
            have hp : ∃ k', skey kd = some k' ∧ kvs' = putD kvs kd d := by
              unfold dputD at hput
              split at hput
              · exact (hd.nohead).elim
              · split at hput
                · rename_i k' h'
                  exact ⟨k', h', (Option.some.inj hput).symm⟩
                · cases hput
            obtain ⟨k', g1, rfl⟩ := hp
            obtain rfl := skey_some g1
            refine ⟨q, _, rfl, .inl ⟨ks, k', hq, hy.key, by rw [hd.len]; exact line_lt (okLen_le hl), rfl⟩, ?_⟩
            exact p _ F2 _ (S2.write (ownD_some z) h1 (.dK (hd.put hv2 k')))
          | dT hd =>
            rename_i ks r
            unfold dputD at hput
            simp only at hput
            split at hput
            · rename_i k' h'
              obtain rfl := tkey_some h'
              cases hput
              obtain ⟨b, us, rfl, _, hb, hds⟩ := hy.tup S2.wok
              refine ⟨q, _, rfl, .inr ⟨ks, k', b, hq, rfl, by rw [← hds.keys]; exact hb, ?_, rfl⟩, ?_⟩
              · rw [hd.len]
                have := okLen_le hl
                simp only [List.length_cons] at this
                exact line_lt (by omega)
              · exact p _ F2 _ (S2.write (ownD_some z) h1 (.dT (hd.put hv2 k')))
            · cases hput
        · exact p.elim
      · exact p.elim
    · exact p.elim)
theorem ds_dput (hu : X.A.units + 1 < cLine) (i : Nat) {x : Str} {xpos pos' : Pos} {k v : Expr} {tk tv : TE} {fk fv : FE W} (hN : X.N[i]? = some x := by rfl) (hvis : Vis X.env.scope x := by first | exact Or.inl rfl | exact Or.inr (Or.inl rfl) | exact Or.inr (Or.inr rfl)) (hk : DQ X R k tk fk) (hv : DE X R v tv fv)
    (hs : swapsWith v (some (.Subscript (.Name x xpos) k pos')) pos.line X.env = pure false := by rfl) (hd : (x == ("__debug__" : Str)) = false := by decide) (hcd : (x == ("__classdict__" : Str)) = false := by decide) :
    DS X R (.Assign [.Subscript (.Name x xpos) k pos'] v pos) (sDPut (tVar i) tk tv) (sDput i fk fv) := ⟨ps_dput hu (pe_var hN hvis hd hcd) hk.pe hv.pe hs, ref_dput hk.rf hv.rf⟩
end
end Cw

/-! enumerate of a tuple; sum of a tuple -/
namespace CwT
open PySem PySem.Spec PyProof.Rows L2
open AutoSeq1 (wpAny_loadPart')
theorem newEnumT (a : Addr) (xs : Array Value) (k : Nat) (dd : Option Addr) (so : Array (Option Value)) :
    Meets (Builtin.«enumerate.__new__» ⟨[.type "enumerate", .ref a], []⟩) (fun _ Z s => s.heap.get? a = some { cls := .type "tuple", dict := dd, data := .seq xs k, slots := so } ∧
      Z (.ok (.ret (.ref (s.heap.push { cls := .type "tuple_iterator", data := .fields #[.ref a, .int 0 0] }).objs.size)))
        { s with heap := (s.heap.push { cls := .type "tuple_iterator", data := .fields #[.ref a, .int 0 0] }).push { cls := .type "enumerate", data := .fields #[.none, .bool false, .ref s.heap.objs.size, rawInt 0, .none, .none] } }) :=
  .of_wp fun prog w A Z s q => by
    obtain ⟨h0, g0, d0, t0, o0⟩ := s
    obtain ⟨ha, q⟩ := q
    have hs := sub_enumerate
    have hT : Heap.IsTuple (Shared.heap ⟨h0, g0, d0, t0, o0⟩) a xs := ⟨_, ha, rfl, k, rfl⟩
    wp_walk using wpAny_loadPart' ha
    refine wpAny_stack_any fun st => wpAny_pure ?_
    split
    · rename_i c _ _ _ _ _
      cases (c == Value.type "enumerate") <;> (wp_walk using wpAny_loadPart' ha, wpAny_pyIter_tuple hT; exact ⟨_, rfl, q⟩)
    · wp_walk using wpAny_loadPart' ha, wpAny_pyIter_tuple hT
      exact ⟨_, rfl, q⟩
section
variable {prog : Program} {w : World} {A : Around} {E : Value → Shared → Prop} {s : Shared}
theorem callEnumT {a : Addr} {xs : Array Value} {Q : Value → Shared → Prop} (hT : IsTup s.heap a xs)
    (q : ∀ h', IsEnum h' (s.heap.objs.size + 1) s.heap.objs.size 0 .none → h'.IsTupleIter s.heap.objs.size a 0 → h'.objs.size = s.heap.objs.size + 2 →
      (∀ b o, s.heap.get? b = some o → h'.get? b = some o) → Q (.ref (s.heap.objs.size + 1)) { s with heap := h' }) :
    wpAny (model prog w) A (call (.type "enumerate") [.ref a]) Q E s := by
  obtain ⟨⟨cc, dd, da, so⟩, ha, hc, k, hd⟩ := hT
  simp only at hc hd
  subst hc hd
  refine callType_new F.called_enumerate (by decide) (F.typeCall_enumerate_1 _) (F.newCall_enumerate_1 _) (fun o => F.args_object_init_2 o _) F.entry_enumerate_new (newEnumT a xs k dd so) ⟨ha, ?_⟩
  have z : (s.heap.push { cls := .type "tuple_iterator", data := .fields #[.ref a, .int 0 0] }).objs.size = s.heap.objs.size + 1 := Heap.size_push ..
  show _ ∧ _
  rw [z]
  have he : IsEnum ((s.heap.push { cls := .type "tuple_iterator", data := .fields #[.ref a, .int 0 0] }).push
      { cls := .type "enumerate", data := .fields #[.none, .bool false, .ref s.heap.objs.size, rawInt 0, .none, .none] }) (s.heap.objs.size + 1) s.heap.objs.size 0 .none := by
    have r := Heap.get?_push_size (s.heap.push { cls := .type "tuple_iterator", data := .fields #[.ref a, .int 0 0] })
      (o := { cls := .type "enumerate", data := .fields #[.none, .bool false, .ref s.heap.objs.size, rawInt 0, .none, .none] }) rfl
    rw [z] at r
    exact r
  exact ⟨⟨_, he, rfl⟩, q _ he ⟨_, Heap.get?_push_of_some _ (Heap.get?_push_size _ rfl), rfl, rfl⟩ (by rw [Heap.size_push, z]) fun b o x => Heap.get?_push_of_some _ (Heap.get?_push_of_some _ x)⟩
end
theorem enumEndT {prog : Program} {w : World} {A : Around} {E : Value → Shared → Prop} {s : Shared} {en it a : Addr} {i : Nat} {xs : Array Value} {old : Value} {Q : Option Value → Shared → Prop} (hh : A.handled = none)
    (he : IsEnum s.heap en it i old) (hit : s.heap.IsTupleIter it a i) (ht : s.heap.IsTuple a xs) (hx : xs[i]? = none) (q : ∀ h', Heap.ExtBut it s.heap h' → Q none { s with heap := h' }) : wpAny (model prog w) A (pyNext (.ref en)) Q E s := by
  have hT : s.TypeIs (.ref en) "enumerate" := ⟨_, he, rfl⟩
  unfold pyNext
  refine wpAny_bind (wpAny_attempt (wpAny_callSpecial?_slot (name := Str.ofString "__next__") hT F.slot_enumerate_next (wpAny_call_entry F.slot_enumerate_next hT F.entry_enumerate_next ?_ (F.args_enumerate_next_1 _))))
  show wpAny _ _ (field (.ref en) 2 >>= _) _ _ _
  refine wpAny_bind (wpAny_field he rfl (x := .ref it) rfl (wpAny_bind (wpAny_nextOf_tuple_end hh hit ht hx fun h' x e1 hx' => ?_)))
  obtain ⟨o, ho, hc⟩ := hx'
  exact wpAny_bind (wpAny_isInstance (T := "StopIteration") (b := true) ⟨o, ho, hc⟩ isSubtype_stop (wpAny_pure (q _ e1)))
/-- the tuple at a, its items in new pairs -/
def IteT (K : PySem.W.Frag) (a : Addr) : It :=
  ⟨fun i H => ∃ (vs : List V) (v : V), SqT K H a vs ∧ vs[i]? = some v,
    fun i H v H' => ∃ T u, v = .ref T ∧ H T = none ∧ H' = upd H T (.tup [.int (i : Nat), u]) ∧ ∀ vs, SqT K H a vs → vs[i]? = some u,
    fun i H => ∃ vs : List V, SqT K H a vs ∧ vs.length ≤ i⟩
theorem turnEnumT {P : Program} {w : World} {K : PySem.W.Frag} {elts : List Expr} {kk : Nat} {tpos : Pos} (a en it : Addr) :
    Turn P w K (.Tuple elts kk tpos) (IteT K a) [en, it] en (fun i h => (∃ old, IsEnum h en it ((i : Nat) : Int) old) ∧ h.IsTupleIter it a i ∧ en ≠ it ∧ a ≠ it ∧ a ≠ en) where
  mem := by simp
  obj := fun i h st b hb => by
    obtain ⟨⟨old, he⟩, ⟨o, ho, hc, hd⟩, _⟩ := st
    rcases (by simpa using hb : b = en ∨ b = it) with rfl | rfl
    · exact ⟨_, he, fun v q => nomatch q⟩
    · exact ⟨o, ho, fun v q => by rw [hd] at q; cases q⟩
  keep := fun i h h' st k => by
    obtain ⟨⟨old, he⟩, hi, hne⟩ := st
    exact ⟨⟨old, k en (by simp) _ he⟩, hi.at fun o q => k it (by simp) o q, hne⟩
  item := by
    intro X hP hw hK hc i pins s σ H E I hf st hg
    subst hP hw hK
    obtain ⟨⟨old, he⟩, hit, hne, hai, hae⟩ := st
    obtain ⟨vs, v, hq, hv⟩ := hg
    obtain ⟨us, rv, pt, _⟩ := I.tuple hq
    obtain ⟨u, hu, ru⟩ := rv.get hv
    have lt1 : en < s.heap.objs.size := Heap.lt_size he
    have lt2 : it < s.heap.objs.size := by obtain ⟨_, q, _⟩ := hit; exact Heap.lt_size q
    have hlen : i < us.toArray.size := by
      have := (List.getElem?_eq_some_iff.mp hu).1
      simpa using this
    refine wpAny_pyNext_enum_itemD (Draws.tuple (A := X.A.in1) (I.ok.hd hc) it a hai us.toArray) he ⟨hit, pt⟩ hlen hne (by simp [hne, Ne.symm hae]) fun x h' tk hx ho hst hT hz hk => ?_
    have ex : x = u := by
      have h1 : us[i]? = some x := by simpa using hx
      rw [hu] at h1
      exact (Option.some.inj h1).symm
    subst ex
    refine ⟨_, rfl, wpAny_letOwnedTupleGo_enum (s := { s with heap := h', toks := tk + 1 }) ho fun h2 he2 sb => ?_⟩
    have hT2 : h2.get? s.heap.objs.size = some { cls := .type "tuple", data := .seq #[.int i tk, x] } := (sb.2 _ (Nat.ne_of_gt lt1)).trans hT
    have nw : ObjOk X.prog X.w (upd H s.heap.objs.size (.tup [.int (i : Nat), v])) h2 s.heap.objs.size (.tup [.int (i : Nat), v]) :=
      ⟨by show 2 ≤ sizeLine; decide, [.int i tk, x], .cons ⟨_, rfl⟩ (.cons ru .nil), ⟨_, hT2, rfl, _, rfl⟩⟩
    have I2 : Inv X pins σ (upd H s.heap.objs.size (.tup [.int (i : Nat), v])) { s with heap := h2, toks := tk + 1 } :=
      I.turnedNew (ch := [en, it]) (fun b ob hb q => (sb.2 b (fun z => hb (by simp [z]))).trans (hk b ob (fun z => hb (by simp [z])) (fun z => hb (by simp [z])) q)) hf (Nat.le_refl _) nw
    refine ⟨.ref s.heap.objs.size, _, I2, rfl, ⟨_, v, rfl, I.hok.fresh (Nat.le_refl _), rfl, fun ys hy => by rw [I.tuple_inj hy hq]; exact hv⟩, ⟨⟨x, ?_⟩, hst.1.at fun o q => (sb.2 it (Ne.symm hne)).trans q, hne, hai, hae⟩, fun b hb => ?_⟩
    · rw [show ((i + 1 : Nat) : Int) = (i : Int) + 1 by omega]; exact he2
    · have hb2 : b < s.heap.objs.size := by
        rcases (by simpa using hb : b = en ∨ b = it) with rfl | rfl
        · exact lt1
        · exact lt2
      rw [upd_ne (Nat.ne_of_lt hb2)]
      exact (hf b hb).1
  done := by
    intro X hP hw hK hc i pins s σ H E I hf st hg
    subst hP hw hK
    obtain ⟨⟨old, he⟩, hit, hne, hai, hae⟩ := st
    obtain ⟨vs, hq, hv⟩ := hg
    obtain ⟨us, rv, pt, _⟩ := I.tuple hq
    obtain ⟨f0, f1, f2, f3, f4, f5⟩ := hf it (by simp)
    have hl := rv.length
    exact enumEndT (I.ok.hd hc) he hit pt (by simp; omega) fun h' eb => ⟨rfl, I.turned (t' := s.toks) (fun b o hb q => eb b o hb q) f0 f1 f3 f4 f5⟩
  self := fun A i s Q E st h => by
    obtain ⟨⟨_, he⟩, _⟩ := st
    exact wpAny_pyIter_enum he h
def iEnT (K : PySem.W.Frag) (ta : TA) : TI := fun σ H Rr => ta σ H fun vs H1 => ∃ a xs, vs = [.ref a] ∧ SqT K H1 a xs ∧ Rr (IteT K a) H1
theorem piEnT {X : Cx} {e : Expr} {ta : TA} {p pos tpos : Pos} {elts : List Expr} {kk : Nat} (hg : Gl X "enumerate") (hm : X.mg "enumerate" = none) (ha : PA X [e] ta) (hs : starEach [e] X.env = [(false, eval e X.env)] := by rfl) : PI X (.Tuple elts kk tpos) (.Call (.Name "enumerate" p) [e] [] pos) (iEnT X.K ta) := by
  refine ⟨fun pins s σ H Rr I h => Call_ (ld_blt I hg hm boot_enumerate (PyProof.Rows.callWith_type1 (thn (ha.run pos pins s σ H _ I h) fun us s1 ⟨vs, H1, I1, r1, q1⟩ => ?_) hs rfl))⟩
  obtain ⟨a, xs, rfl, hq, q⟩ := q1
  obtain ⟨u, rfl, ru⟩ := vals1 r1
  obtain rfl : u = Value.ref a := ru
  obtain ⟨its, rv, pt, _⟩ := I1.tuple hq
  have alt : a < s1.heap.objs.size := by obtain ⟨_, z, _⟩ := pt; exact Heap.lt_size z
  refine callEnumT pt fun h' he hit hz hk => wpAny_pyIter_enum he ?_
  have I2 : Inv X pins σ H1 { s1 with heap := h' } := I1.kept (t' := s1.toks) hk
  refine ⟨s1.heap.objs.size + 1, [s1.heap.objs.size + 1, s1.heap.objs.size], _, _, H1, rfl, I2, turnEnumT a (s1.heap.objs.size + 1) s1.heap.objs.size, ⟨⟨.none, he⟩, hit, Nat.succ_ne_self _, Nat.ne_of_lt alt, Nat.ne_of_lt (Nat.lt_succ_of_lt alt)⟩, fun b hb => ?_, q⟩
  have le : s1.heap.objs.size ≤ b := by
    rcases (by simpa using hb : b = s1.heap.objs.size + 1 ∨ b = s1.heap.objs.size) with rfl | rfl
    · exact Nat.le_add_right _ _
    · exact Nat.le_refl _
  exact I1.fpOk le (I1.hok.fresh le)
/-- sum of a tuple of ints -/
theorem sumT {prog : Program} {w : World} {A : Around} {E : Value → Shared → Prop} {s : Shared} {a : Addr} {its : List Value} {ns : List Int} {Q : Value → Shared → Prop} (hh : A.handled = none) (ht : IsTup s.heap a its.toArray) (hi : IntsAre its ns)
    (q : ∀ h' tk t', (∀ b o, s.heap.get? b = some o → h'.get? b = some o) → Q (.int ns.sum t') { s with heap := h', toks := tk }) : wpAny (model prog w) A (call (.builtin "sum") [.ref a]) Q E s := by
  obtain ⟨xs, e⟩ := hi.allInts.items
  have hn : numsOf (intItems xs).toList = ns := by rw [← e]; exact hi.numsOf
  rw [nums_intItems] at hn
  rw [e] at ht
  have alt : a < s.heap.objs.size := by obtain ⟨_, z, _⟩ := ht; exact Heap.lt_size z
  have ane : a ≠ s.heap.objs.size := Nat.ne_of_lt alt
  refine call_sum_walkG (wpAny_pyIter_tuple ht ?_)
  refine ⟨_, _, _, _, _, _, numAt xs, rfl, Walks.tuple (A := A.in1) hh s.heap.objs.size a ane (intItems xs), ⟨⟨_, Heap.get?_push_size _ rfl, rfl, rfl⟩, ht.push _⟩, fun b hb => ?_, (fun _ _ => intItems_at), fun h' tk t' hk => ?_⟩
  · show b < (s.heap.push _).objs.size
    rw [Heap.size_push]
    rcases (by simpa using hb : b = s.heap.objs.size ∨ b = a) with rfl | rfl
    · exact Nat.lt_succ_self _
    · exact Nat.lt_succ_of_lt alt
  · have z := q h' tk t' fun b o e => hk b o (fun hm => Nat.ne_of_lt (Heap.lt_size e) (by simpa using hm)) (Heap.get?_push_of_some _ e)
    rw [preSum_eq, List.take_of_length_le (by simp [intItems]), hn]
    exact z
end CwT
namespace Cw
open PySem PySem.Spec PyProof.Rows L2
section
variable {W : Type} {R : Rsc W} {F H F1 H1 : Hp} {w w1 : W} {X : Cx}
theorem itw_enumT {K : PySem.W.Frag} {a : Addr} {vs : List V} {ds : List D} {G : Hp → Prop} (hd : DnL F1 vs ds) (h : ∀ (F H : Hp) (w : W), Sub F1 F → G H → Wok R F H w → SqT K H a vs) : ItW R F1 G (CwT.IteT K a) (enumL 0 ds) := fun F H w s g k => by
  have q := h F H w s g k
  refine ⟨fun i d e => ?_, fun i hi => ⟨vs, q, by rw [hd.len, ← enumL_len ds 0]; exact hi⟩⟩
  obtain ⟨d', e1, rfl⟩ := enumL_get _ _ _ _ e
  obtain ⟨v, h1, h2⟩ := hd.get i e1
  refine ⟨⟨vs, v, q, h1⟩, fun x H' hy => ?_⟩
  obtain ⟨T, x', rfl, hT, rfl, f⟩ := hy
  have ex : v = x' := Option.some.inj (h1.symm.trans (f _ q))
  subst ex
  refine ⟨_, Ext.new k hT, k.new hT, ?_⟩
  rw [show (0 : Int) + (i : Nat) = (i : Nat) by omega]
  exact Dn.pair (k.Fnone hT) (.int _) (h2.mono s)
def iEnumA (fe : FE W) : FI W := fun η w => bindM (fe η w) fun d w1 => match d with
  | .list xs => match okLen xs.length with
    | true => .ok (enumL 0 xs, w1)
    | false => .stk
  | .tuple xs => match okLen xs.length with
    | true => .ok (enumL 0 xs, w1)
    | false => .stk
  | _ => .stk
variable {e : Expr} {te : TE} {fe : FE W} {p pos tpos : Pos} {elts : List Expr} {kk : Nat} {tA : TA}
/-- enumerate of a list or a tuple -/
def iEnA (K : PySem.W.Frag) (te : TE) : TI := fun σ H Rr => iEnum K (tCons te tNil) σ H Rr ∨ CwT.iEnT K (tCons te tNil) σ H Rr
theorem di_enumA (hg : Gl X "enumerate") (hm : X.mg "enumerate" = none) (ha : DE X R e te fe) (hs : starEach [e] X.env = [(false, eval e X.env)] := by rfl) (hs2 : starEach [e] X.env = (false, eval e X.env) :: starEach [] X.env := by rfl) :
    DI X R (.Tuple elts kk tpos) (.Call (.Name "enumerate" p) [e] [] pos) (iEnA X.K te) (iEnumA fe) := ⟨pi_or (pi_enum hg hm (pa_cons ha.pe pa_nil hs2) hs) (CwT.piEnT hg hm (pa_cons ha.pe pa_nil hs2) hs), fun B η w σ F H S Rr p => by
  unfold iEnumA at p
  have key := ha.rf B η w σ F H S
  revert p key
  generalize fe η w = r
  intro p key
  match r, p with
  | .ok (.list xs, w1), p =>
    simp only [bindM] at p
    split at p
    · rename_i hl
      refine .inl (key _ fun F' H' e k v hv => ?_)
      cases hv with
      | lst hf hd => exact ⟨_, _, rfl, SqL.of (k.at hf id), p F' H' e k (by rw [enumL_len]; exact okLen_le hl) _ (itw_enum hd fun F2 H2 w2 s _ k2 => SqL.of (k2.at (s _ _ hf) id))⟩
    · exact p.elim
  | .ok (.tuple xs, w1), p =>
    simp only [bindM] at p
    split at p
    · rename_i hl
      refine .inr (key _ fun F' H' e k v hv => ?_)
      cases hv with
      | tup hf hd => exact ⟨_, _, rfl, SqT.of (k.at hf id), p F' H' e k (by rw [enumL_len]; exact okLen_le hl) _ (itw_enumT hd fun F2 H2 w2 s _ k2 => SqT.of (k2.at (s _ _ hf) id))⟩
    · exact p.elim
  | .ok (.none, w1), p => exact p.elim
  | .ok (.bool _, w1), p => exact p.elim
  | .ok (.int _, w1), p => exact p.elim
  | .ok (.str _, w1), p => exact p.elim
  | .ok (.dict _, w1), p => exact p.elim
  | .exc c, p => exact .inl (key _ p)
  | .stk, p => exact p.elim⟩
/-- sum -/
def rSumT (K : PySem.W.Frag) : List V → Hp → VK → Prop := fun vs H Q => ∃ (a : Addr) (ns : List Int), vs = [V.ref a] ∧ SqT K H a (ns.map V.int) ∧ Q (.int ns.sum) H
theorem cr_sumT (hc : X.calm = true) : CallR X (.builtin "sum") (rSumT X.K) := by
  intro pins s σ H xs us Q I r h
  obtain ⟨a, ns, rfl, hq, q⟩ := h
  obtain ⟨u, rfl, ru⟩ := vals1 r
  obtain rfl : u = Value.ref a := ru
  obtain ⟨its, rv, pt, _⟩ := I.tuple hq
  exact CwT.sumT (I.ok.hd hc) pt rv.ints fun h' tk t' hk => ⟨.int ns.sum, H, I.kept (t' := tk) hk, ⟨_, rfl⟩, q⟩
theorem c_sum (hc : X.calm = true) : CallD X R (.builtin "sum") (fun xs H Q => rSum X.K xs H Q ∨ rSumT X.K xs H Q) sumD := ⟨CallR.or (cr_sum hc) (cr_sumT hc), by
  intro F H w vs ds Q k h p
  unfold sumD at p
  split at p
  · split at p
    · rename_i ns e
      obtain ⟨v, rfl, hv⟩ := h.one
      obtain ⟨q, us, rfl, hq, hd⟩ := hv.lst k
      exact .inl ⟨q, ns, rfl, by rw [← intsOf_vals e hd]; exact SqL.of hq, p.here k _ (.int _)⟩
    · exact p.elim
  · split at p
    · rename_i ns e
      obtain ⟨v, rfl, hv⟩ := h.one
      obtain ⟨q, us, rfl, _, hq, hd⟩ := hv.tup k
      exact .inr ⟨q, ns, rfl, by rw [← intsOf_vals e hd]; exact SqT.of hq, p.here k _ (.int _)⟩
    · exact p.elim
  · exact p.elim⟩
/-- len of a dict whose keys are tuples -/
def rLenTR : List V → Hp → VK → Prop := fun xs H Q => ∃ (p : Addr) (kvs : List (List Key × V)), xs = [.ref p] ∧ Rd H p (.dT kvs) ∧ Q (.int ((kvs.length : Nat) : Int)) H
theorem cr_lenT : CallR X (.builtin "len") rLenTR := by
  intro pins s σ H xs us Q I r h
  obtain ⟨p, kvs, rfl, hp, q⟩ := h
  obtain ⟨u, rfl, rx⟩ := vals1 r
  obtain rfl : u = .ref p := rx
  obtain ⟨z, hd, ys, rel, dd⟩ := dt_rd I.hok hp
  have hl : kvs.length = ys.length := Paired.length rel
  refine call_len_dictH hd dd (by rw [← hl]; rw [sizeLine_eq] at z; omega) ?_
  rw [← hl]
  exact ⟨.int ((kvs.length : Nat) : Int), H, I.tok _, ⟨_, rfl⟩, q⟩
def lenTD : List D → Res D
  | [.dict ((.none, _) :: r)] => .ok (.int r.length)
  | _ => .stk
theorem nx_lenT : NoX1 lenTD := by intro ds c; unfold lenTD; split <;> simp
theorem c_lenT : CallD X R (.builtin "len") rLenTR lenTD := ⟨cr_lenT, by
  intro F H w vs ds Q k h p
  unfold lenTD at p
  split at p
  · obtain ⟨v, rfl, hv⟩ := h.one
    rcases hv.dicK k with ⟨a, ks, rfl, hr, hd⟩ | ⟨a, ks, r', rfl, hr, e, hd⟩
    · exact hd.nohead.elim
    · cases e
      exact ⟨a, ks, rfl, hr, by rw [hd.len]; exact p.here k _ (.int _)⟩
  · exact p.elim⟩
end
end Cw

namespace Cw
open PySem PySem.Spec PyProof.Rows L2

/-! ### what a def is worth -/
/-- called with frozen data: the data that f gives -/
def spD (f : List D → Res D) : Sp := fun vs H Q _ => ∃ F ds, Wok R0 F H () ∧ DnL F vs ds ∧ Post R0 F H (fun _ => False) (liftM (f ds) ()) (PV Q)
/-- a body's worth: n parameters, N names -/
def runF (n N : Nat) (g : FS Unit) (ds : List D) : Res D := match Nat.beq ds.length n with
  | false => .stk
  | true => match g (ds.map Slot.fr ++ List.replicate (N - n) Slot.un) () with
    | .ok (.rt d, _) => .ok d
    | .ok (.nx _, _) => .ok .none
    | .exc c => .exc c
    | _ => .stk
theorem DnL.at_map {F : Hp} {vs : List V} {ds : List D} {N : Nat} (h : DnL F vs ds) {i : Nat} {d : D} (e : (ds.map Slot.fr ++ List.replicate N Slot.un)[i]? = some (Slot.fr d)) : ∃ v, (vs.map some ++ List.replicate N none)[i]? = some (some v) ∧ Dn F v d := by
  by_cases hi : i < ds.length
  · rw [List.getElem?_append_left (by simpa using hi), List.getElem?_map] at e
    cases z : ds[i]? with
    | none => rw [z] at e; cases e
    | some d' =>
      rw [z] at e
      have e' : d' = d := by simpa using e
      subst e'
      obtain ⟨v, h1, h2⟩ := h.get i z
      exact ⟨v, by rw [List.getElem?_append_left (by rw [List.length_map, h.len]; exact hi), List.getElem?_map, h1]; rfl, h2⟩
  · rw [List.getElem?_append_right (by simpa using Nat.le_of_not_lt hi)] at e
    have := (List.mem_replicate.mp (List.mem_of_getElem? e)).2
    cases this
theorem no_ow {ds : List D} {N i : Nat} {d : D} (h : (ds.map Slot.fr ++ List.replicate N Slot.un)[i]? = some (Slot.ow d)) : False := by
  rcases List.mem_append.mp (List.mem_of_getElem? h) with m | m
  · obtain ⟨_, _, e⟩ := List.mem_map.mp m; cases e
  · cases (List.mem_replicate.mp m).2
theorem no_hd {ds : List D} {N i : Nat} (h : (ds.map Slot.fr ++ List.replicate N Slot.un)[i]? = some Slot.hd) : False := by
  rcases List.mem_append.mp (List.mem_of_getElem? h) with m | m
  · obtain ⟨_, _, e⟩ := List.mem_map.mp m; cases e
  · cases (List.mem_replicate.mp m).2
theorem StOk.start {F H : Hp} {vs : List V} {ds : List D} {Nm : List Str} (k : Wok R0 F H ()) (h : DnL F vs ds) (n : Nat) (hn : ds.length = n) (Xc : String → Prop) : StOk R0 ⟨F, H, Xc⟩ (ds.map Slot.fr ++ List.replicate (Nm.length - n) Slot.un) () (start Nm vs) F H where
  wok := k
  ext := .refl
  len := by unfold L2.start; simp [h.len, hn]
  fr := fun {i d} e => by
    subst hn
    have z := h.at_map e
    unfold L2.start
    rw [h.len]
    exact z
  ow := fun e => (no_ow e).elim
  hd := fun e => (no_hd e).elim
  inj := fun e => (no_ow e).elim
/-- the end of a body -/
theorem body_end {X : Cx} {body : List Stmt} {t : TS} {g : FS Unit} {Nm : List Str} {n : Nat} {vs : List V} {H : Hp} {Q : VK} {E : XK} (hN : X.N = Nm) (d : DSs X R0 body t g) (h : spD (runF n Nm.length g) vs H Q E) :
    ∃ t, PSs X body t ∧ t { nx := fun _ H' => Q .non H', rt := Q } (start Nm vs) H := by
  obtain ⟨F, ds, k, hd, p⟩ := h
  refine ⟨t, d.ps, ?_⟩
  unfold runF at p
  split at p
  · exact p.elim
  · rename_i hb
    have hn : ds.length = n := Nat.eq_of_beq_eq_true hb
    refine d.rf _ _ _ _ F H (StOk.start k hd n hn (fun _ => False)) _ ?_
    revert p
    generalize g (ds.map Slot.fr ++ List.replicate (Nm.length - n) Slot.un) () = r
    intro p
    match r, p with
    | .ok (.rt d, ()), p => exact fun v F' H' e o hv => p F' H' e o v hv
    | .ok (.nx η, ()), p => exact fun σ' F' H' S => p F' H' S.ext S.wok _ .non
    | .ok (.bk η, ()), p => exact p.elim
    | .ok (.ct η, ()), p => exact p.elim
    | .exc c, p => exact p
    | .stk, p => exact p.elim
theorem spD_len {n N : Nat} {g : FS Unit} {vs : List V} {H : Hp} {Q : VK} {E : XK} (h : spD (runF n N g) vs H Q E) : vs.length = n := by
  obtain ⟨F, ds, k, hd, p⟩ := h
  unfold runF at p
  split at p
  · exact p.elim
  · rename_i hb
    rw [hd.len]; exact Nat.eq_of_beq_eq_true hb
section
variable {W : Type} {R : Rsc W} {X : Cx}
def eFn (f : List D → Res D) (fs : FA W) : FE W := fun η w => bindM (fs η w) fun ds w1 => liftM (f ds) w1
theorem Post.to0 {F H : Hp} {w : W} {Xc : String → Prop} {r : Res D} {Q : VK} (nx : ∀ c, r ≠ .exc c) (k : Wok R F H w) (p : Post R F H Xc (liftM r w) (PV Q)) : Post R0 F H (fun _ => False) (liftM r ()) (PV Q) := by
  match r, nx, p with
  | .ok d, _, p => exact fun F' H' e o v hv => p F' H' (Ext.of0 e) (k.of0 e o) v hv
  | .exc c, nx, _ => exact (nx c rfl).elim
  | .stk, _, p => exact p.elim
/-- a body without raise tells no error -/
def noX (r : Res D) : Res D := match r with
  | .exc _ => .stk
  | r => r
theorem noX_ne {r : Res D} {c : String} : noX r ≠ .exc c := by cases r <;> simp [noX]
variable {CX : CXT} {k : Nat} {f : Addr} {fd : FuncData} {ps : List Str} {x : Str} {p pos : Pos} {e : Expr} {es : List Expr} {t : TA} {m : List D → Res D} {fs : FA W}
theorem ref_fn (ha : RefA R t fs) : RefE R (tCall (spD m) [] E0 t) (eFn (fun ds => noX (m ds)) fs) := fun B η w σ F H S Q p =>
  ha B η w σ F H S _ (p.bind fun ds w1 F1 H1 e k p vs hvs => by
    refine ⟨F1, ds, k.to0, by rw [List.append_nil]; exact hvs, ?_⟩
    have p0 := Post.to0 (fun c => noX_ne) k p
    revert p0
    generalize m ds = r
    intro p0
    match r, p0 with
    | .ok d, p0 => exact p0
    | .exc c, p0 => exact p0.elim
    | .stk, p0 => exact p0)
theorem de_call (F : FnOk X.prog X.w X.K X.mg X.base CX0 k f fd ps (spD m)) (hr : Room k X.A) (hg : Gl X x) (hm : X.mg x = some (.ref f)) (hk : PySem.W.keepIn X.K (.ref f) = true) (hb : Binds X.K fd ps [])
    (ha : DA X R (e :: es) t fs) (hdb : (x == ("__debug__" : Str)) = false := by decide) (he : starEach (e :: es) X.env = (false, eval e X.env) :: starEach es X.env := by rfl) (hpl : (backTo pos (starEach es X.env)).any (·.1) = false := by rfl) :
    DE X R (.Call (.Name x p) (e :: es) [] pos) (tCall (spD m) [] E0 t) (eFn (fun ds => noX (m ds)) fs) := ⟨pe_call F hr hg hm hk hb .nil pass0 ha.pa hdb he hpl, ref_fn ha.rf⟩
end
end Cw

namespace Cw
open PySem PySem.Spec PyProof.Rows L2
/-- a def that stands, and is worth m -/
structure Callee (P : Program) (w : World) (K : PySem.W.Frag) (mg : Str → Option Value) (base : Heap) (x : Str) (k : Nat) (m : List D → Res D) : Prop where
  ex : ∃ f fd ps, FnOk P w K mg base CX0 k f fd ps (spD m) ∧ mg x = some (.ref f) ∧ PySem.W.keepIn K (.ref f) = true ∧ Binds K fd ps []
section
variable {W : Type} {R : Rsc W} {F H F1 H1 : Hp} {w w1 : W} {X : Cx}
variable {x : Str} {p pos : Pos} {e a b : Expr} {es : List Expr} {t : TA} {m : List D → Res D} {fs : FA W} {k : Nat} {te ta tb : TE} {fe fa fb : FE W}
theorem de_callC (C : Callee X.prog X.w X.K X.mg X.base x k m) (hr : Room k X.A) (hg : Gl X x)
    (ha : DA X R (e :: es) t fs) (hdb : (x == ("__debug__" : Str)) = false := by decide) (he : starEach (e :: es) X.env = (false, eval e X.env) :: starEach es X.env := by rfl) (hpl : (backTo pos (starEach es X.env)).any (·.1) = false := by rfl) :
    DE X R (.Call (.Name x p) (e :: es) [] pos) (tCall (spD m) [] E0 t) (eFn (fun ds => noX (m ds)) fs) := by
  obtain ⟨f, fd, ps, F, hm, hk, hb⟩ := C.ex
  exact de_call F hr hg hm hk hb ha hdb he hpl
theorem de_globI {i : Int} (hg : Gl X x) (hm : ∃ t, X.mg x = some (.int i t)) (hd : (x == ("__debug__" : Str)) = false := by decide) : DE X R (.Name x pos) (tC (.int i)) (eC (.int i)) := by
  obtain ⟨t, hm⟩ := hm
  exact de_glob hg hm ⟨t, rfl⟩ (fun _ => .int _) hd
theorem de_globS {i : Str} (hg : Gl X x) (hm : ∃ t, X.mg x = some (.str i t)) (hd : (x == ("__debug__" : Str)) = false := by decide) : DE X R (.Name x pos) (tC (.str i)) (eC (.str i)) := by
  obtain ⟨t, hm⟩ := hm
  exact de_glob hg hm ⟨t, rfl⟩ (fun _ => .str _) hd
/-- [..] * n, new -/
def repD (a b : D) : Res D := match a, b with
  | .list xs, .int j => match decide (0 ≤ j) && decide (j ≤ 1000) && okLen (xs.length * j.toNat) with
    | true => .ok (.list (List.replicate j.toNat xs).flatten)
    | false => .stk
  | _, _ => .stk
theorem dn_rep (ha : DQ X R a ta fa) (hb : DQ X R b tb fb) : DN X R (.BinOp a .Mult b pos) (tOp rRep ta tb) (e2 repD fa fb) := ⟨pe_op op_rep ha.pe hb.pe, fun B η w σ F H S Q p =>
  ha.rf B η w σ F H S _ (p.bind fun d w1 F1 H1 e k p v hv => hb.rf B η w1 σ F1 H1 (S.go e k) _ (p.bind fun c w2 F2 H2 e2 k2 p u hu => by
    unfold repD at p
    split at p
    · split at p
      · rename_i xs j _ h
        simp only [Bool.and_eq_true, decide_eq_true_eq] at h
        obtain ⟨q, vs, rfl, hq, hd⟩ := (hv.go e2).lst k2
        exact ⟨q, _, vs, rfl, hu.int, hq, by omega, by omega, by rw [hd.len]; exact line_of (okLen_le h.2), Post.lstN k2 (hd.rep _) (PN_go (fun q hq => e.none S.wok k (e2.none k k2 hq)) p)⟩
      · exact p.elim
    · exact p.elim))⟩
/-- x.index(y), x a list -/
def placeD : List D → D → Option Nat
  | [], _ => none
  | z :: r, d => match PyData.eqv z d with
    | true => some 0
    | false => (placeD r d).map (· + 1)
theorem placeD_some : ∀ {xs : List D} {d : D} {j : Nat}, placeD xs d = some j → ∃ z, xs[j]? = some z ∧ PyData.eqv z d = true ∧ ∀ (m : Nat) (z' : D), m < j → xs[m]? = some z' → PyData.eqv z' d = false
  | [], _, _, h => by cases h
  | z :: r, d, j, h => by
    unfold placeD at h
    cases e : PyData.eqv z d with
    | true =>
      rw [e] at h
      cases h
      exact ⟨z, rfl, e, fun m z' hm => absurd hm (Nat.not_lt_zero m)⟩
    | false =>
      rw [e] at h
      simp only [Option.map_eq_some_iff] at h
      obtain ⟨j', h1, rfl⟩ := h
      obtain ⟨y, g1, g2, g3⟩ := placeD_some h1
      refine ⟨y, by simpa using g1, g2, fun m z' hm hz => ?_⟩
      cases m with
      | zero => simp at hz; rw [← hz]; exact e
      | succ m => exact g3 m z' (by omega) (by simpa using hz)
def indexD (a b : D) : Res D := match a with
  | .list xs => match SeqAt.shaped b && SeqAt.shaped (.list xs) with
    | true => match placeD xs b with
      | some j => .ok (.int (j : Nat))
      | none => .stk
    | false => .stk
  | _ => .stk
def eIndex (fa fb : FE W) : FE W := fun η w => bindM (fa η w) fun d w1 => match d with
  | .list xs => bindM (fb η w1) fun b w2 => liftM (indexD (.list xs) b) w2
  | _ => .stk
theorem ref_index {K : PySem.W.Frag} (ha : RefQ R ta fa) (hb : RefQ R tb fb) : RefE R (tBM K "list" (rIndexD K) ta (tCons tb tNil)) (eIndex fa fb) := fun B η w σ F H S Q p =>
  ha B η w σ F H S _ (p.bind fun d w1 F1 H1 e k p v hv => by
    split at p
    · obtain ⟨q, vs, rfl, hq, hd⟩ := hv.lst k
      refine ⟨.inl ⟨rfl, vs, SqL.of hq⟩, hb B η w1 σ F1 H1 (S.go e k) _ (p.bind fun c w2 F2 H2 e2 k2 p u hu => ?_)⟩
      unfold indexD at p
      dsimp only at p
      split at p
      · rename_i hs
        rw [Bool.and_eq_true] at hs
        split at p
        · rename_i j hj
          obtain ⟨z, g1, g2, g3⟩ := placeD_some hj
          have pl1 := PyData.plain_of_canLay0 _ (SeqAt.canLay_of_shaped hs.1)
          have pl2 := PyData.plain_of_canLay0 _ (SeqAt.canLay_of_shaped hs.2)
          exact ⟨q, u, c, _, j, z, rfl, rfl, (hv.go e2).dp k2 pl2, hu.dp k2 pl1, hs.2, hs.1, g1, g2, g3, p.here k2 _ (.int _)⟩
        · exact p.elim
      · exact p.elim
    · exact p.elim)
variable {apos cpos : Pos}
theorem de_index (hu : X.A.units + 64 < cLine) (hu2 : X.A.units + 65 < cLine) (ha : DQ X R a ta fa) (hb : DQ X R b tb fb)
    (hbs : attributeBase a "index" X.env (eval a X.env) = eval a X.env := by rfl) (hf : ((backTo cpos (starEach (b :: []) X.env)).all (fun x => !x.1) && (backToKw cpos (keywordEach [] X.env)).all (fun x => x.1.isSome)
      && decide ((b :: []).length + ([] : List Keyword).length + (if ([] : List Keyword).isEmpty then 0 else 1) < 30)) = true := by rfl) (hl : (apos.endLine == cpos.line) = true := by rfl) (hs : starEach (b :: []) X.env = (false, eval b X.env) :: starEach [] X.env := by rfl)
    (hp : (backTo cpos (starEach [] X.env)).any (·.1) = false := by rfl) : DE X R (.Call (.Attribute a "index" apos) [b] [] cpos) (tBM X.K "list" (rIndexD X.K) ta (tCons tb tNil)) (eIndex fa fb) :=
  ⟨pe_bm PySem.F.plainAttrs_list PySem.F.slot_list_index PySem.F.type_list_index (mt_indexD hu2) ha.pe (pa_cons hb.pe pa_nil hs) hbs hf hl hs hp, ref_index ha.rf hb.rf⟩
/-- a dict that has just come, walked by its keys: it is locked, and stays so -/
def tLockA (t : TE) : TE := fun σ H Q => t σ H fun x H1 => ∃ d u, x = .ref d ∧ ((H1 d = some u ∧ Mut (some u) ∧ ∀ od, Q x (upd H1 d (.frz od u))) ∨ (∃ od, H1 d = some (.frz od u) ∧ Q x H1))
theorem pe_lockA (h : PE X e te) : PE X e (tLockA te) := ⟨fun pins s σ H Q I q => thn (h.run pins s σ H _ I q) fun v s1 ⟨x, H1, I1, r, d, u, ex, q1⟩ => by
  rcases q1 with ⟨h1, h2, h3⟩ | ⟨od, h1, h2⟩
  · obtain ⟨od, I2⟩ := I1.lock h1 h2
    exact ⟨x, _, I2, r, h3 od⟩
  · exact ⟨x, H1, I1, r, h2⟩⟩
def iKeysF (fe : FE W) : FI W := fun η w => bindM (fe η w) fun d w1 => match d with
  | .dict ((.none, _) :: kvs) => match okLen kvs.length with
    | true => .ok (kvs.map (·.1), w1)
    | false => .stk
  | _ => .stk
theorem DnT.at : ∀ {kvs : List (List Key × V)} {ds : List (D × D)} {i : Nat} {d : D}, DnT F kvs ds → (ds.map (·.1))[i]? = some d → ∃ k v, kvs[i]? = some (k, v) ∧ d = .tuple (k.map keyD)
  | _, _, _, _, .nil, h => by simp at h
  | _, _, 0, d, .cons (k := k) (v := v) _ _, h => ⟨k, v, rfl, by simpa using h.symm⟩
  | _, _, i + 1, d, .cons _ t, h => by
    obtain ⟨k, v, h1, h2⟩ := DnT.at (i := i) t (by simpa using h)
    exact ⟨k, v, by simpa using h1, h2⟩
theorem dnl_keys : ∀ ks : List Key, DnL F (ks.map kV) (ks.map keyD)
  | [] => .nil
  | .inl i :: r => .cons (.int i) (dnl_keys r)
  | .inr x :: r => .cons (.str x) (dnl_keys r)
theorem itw_keys {d : Addr} {od : Obj} {kvs : List (List Key × V)} {ds : List (D × D)} {G : Hp → Prop} (hd : DnT F1 kvs ds) (h : ∀ (F H : Hp) (w : W), Sub F1 F → G H → Wok R F H w → H d = some (.frz od (.dT kvs))) : ItW R F1 G (Itkt d od kvs) (ds.map (·.1)) := fun F H w s g k => by
  have q := h F H w s g k
  refine ⟨fun i c e => ?_, fun i hi => ⟨q, by rw [hd.len]; simpa using hi⟩⟩
  obtain ⟨ky, v, h1, rfl⟩ := hd.at e
  refine ⟨⟨q, (List.getElem?_eq_some_iff.mp h1).1⟩, fun x H' hy => ?_⟩
  obtain ⟨rfl, k2, v2, qa, h2, rfl, hq⟩ := hy
  rw [h1] at h2
  cases h2
  have sb : Sub F (upd F qa (.tup (ky.map kV))) := fun a u z => by
    by_cases e : a = qa
    · subst e
      rcases k.sub _ _ z with z' | ⟨zd, _, z'⟩
      · rw [upd_same, ← hq]; exact z'
      · rw [hq] at z'; cases z'
    · rw [upd_ne e]; exact z
  have nfq : ¬ R.foot qa := fun f => by
    obtain ⟨u, hu, hn⟩ := R.there k.res f
    rw [hq] at hu
    cases hu
    exact hn trivial
  refine ⟨_, ⟨sb, fun _ _ z => z, fun {a o} _ nz z z' => ?_⟩, ⟨fun a u z => ?_, fun {a} f => ?_, k.res⟩, .tup upd_same (dnl_keys ky)⟩
  · rw [upd_ne (fun e => by subst e; rw [hq] at z; cases z; exact nz trivial)]; exact z'
  · by_cases e : a = qa
    · subst e; rw [upd_same] at z; cases z; exact .inl hq
    · rw [upd_ne e] at z; exact k.sub _ _ z
  · rw [upd_ne (show a ≠ qa from fun e => nfq (by rw [← e]; exact f))]; exact k.nf f
/-- the keys of a dict with tuple keys, in a comprehension -/
theorem dj_keys {tg : Expr} (h : DE X R e te fe) : DJ X R tg e (iKeys (tLockA te)) (iKeysF fe) := ⟨pi_keys (pe_lockA h.pe), fun B η w σ F H S Rr p =>
  h.rf B η w σ F H S _ (p.bind fun d w1 F1 H1 e1 k1 p v hv => by
    split at p
    · split at p
      · rename_i kvs hl
        generalize ee : PyData.dict _ = dd at hv
        cases hv with
        | non => cases ee
        | bl => cases ee
        | int => cases ee
        | str => cases ee
        | lst => cases ee
        | tup => cases ee
        | dK hf hd => cases ee; exact hd.nohead.elim
        | dT hf hd =>
          rename_i a ks ds
          cases ee
          have hlen := okLen_le hl
          rcases k1.sub _ _ hf with hh | ⟨_, od, hh⟩
          · refine ⟨a, _, rfl, .inl ⟨hh, trivial, fun od => ⟨a, od, rfl, .inr ⟨ks, upd_same, ?_⟩⟩⟩⟩
            have nfa : ¬ R.foot a := fun f => by rw [k1.nf f] at hf; cases hf
            have k2 : Wok R F1 (upd H1 a (.frz od (.dT ks))) w1 := ⟨fun b u z => by
                by_cases eb : b = a
                · subst eb; rw [hf] at z; cases z; exact .inr ⟨trivial, od, upd_same⟩
                · rw [upd_ne eb]; exact k1.sub _ _ z, k1.nf, R.stable k1.res fun b fb => upd_ne fun z => nfa (z ▸ fb)⟩
            refine p F1 _ ⟨Sub.refl F1, fun {b o} n q z => ?_, fun _ _ _ z => z⟩ k2 (by simpa using hlen) _ (itw_keys hd fun F2 H2 w2 s g k3 => g _ _ nfa (.inr trivial) upd_same)
            by_cases eb : b = a
            · subst eb
              rcases q with q | q
              · rw [hf] at q; cases q
              · rw [hh] at z; cases z; exact q.elim
            · rw [upd_ne eb]; exact z
          · refine ⟨a, _, rfl, .inr ⟨od, hh, a, od, rfl, .inr ⟨ks, hh, ?_⟩⟩⟩
            have nfa : ¬ R.foot a := fun f => by rw [k1.nf f] at hf; cases hf
            exact p.here k1 (by simpa using hlen) _ (itw_keys hd fun F2 H2 w2 s g k3 => g _ _ nfa (.inr trivial) hh)
      · exact p.elim
    · exact p.elim)⟩
end
end Cw
namespace Cw
open PySem PySem.Spec PyProof.Rows L2
section
variable {W : Type} {R : Rsc W} {X : Cx} {e : Expr} {t : TE} {f : FE W} {tt : TT} {ft : FT W} {tg iter : Expr} {wi : TI} {fi : FI W}
theorem dq_of (h : DE X R e t f) : DQ X R e t f := h.q
theorem dq_ofN (h : DN X R e t f) : DQ X R e t f := h.q
theorem de_of (h : DN X R e t f) : DE X R e t f := h.e
theorem dt_of (h : DW X R e tt ft) : DT X R e tt ft := h.t
theorem dj_of (h : DI X R tg iter wi fi) : DJ X R tg iter wi fi := h.j
end
end Cw
namespace Cw
open PySem PySem.Spec PyProof.Rows L2
section
variable {W : Type} {R : Rsc W} {X : Cx} {e : Expr} {es : List Expr} {t : TG} {u : TGs} {f : TgF W} {g : TgFs W} {sl sl' : List Nat} {k n : Nat} {pos : Pos}
theorem gns (hs : (assignEach (e :: es) X.env).map (·.2) = assign e X.env :: (assignEach es X.env).map (·.2)) (h1 : DGn X R e t f sl) (h2 : DGns X R es u g sl') : DGns X R (e :: es) (gCons t u) (tgCons f g) (sl ++ sl') := dgns_cons h1 h2 hs
theorem gnt (hc : X.calm = true) (hn : (assignEach es X.env).length = n) (hst : (assignEach es X.env).findIdx? (·.1) = none) (hlen : TLen g n) (h : DGns X R es u g sl) : DGn X R (.Tuple es k pos) (gTup X.K n u) (tgT g) sl := dgn_tup hc h hlen hn hst
theorem ggs (hs : (assignEach (e :: es) X.env).map (·.2) = assign e X.env :: (assignEach es X.env).map (·.2)) (h1 : DG X R e t f) (h2 : DGs X R es u g) : DGs X R (e :: es) (gCons t u) (tgCons f g) := dgs_cons h1 h2 hs
theorem ggt (hc : X.calm = true) (hn : (assignEach es X.env).length = n) (hst : (assignEach es X.env).findIdx? (·.1) = none) (hlen : TLen g n) (nx : ∀ ds η w c, ds.length ≠ n → g ds η w ≠ .exc c) (h : DGs X R es u g) : DG X R (.Tuple es k pos) (gTup X.K n u) (tgT g) := dg_tup hc h hlen nx hn hst
end
end Cw

namespace Cw
open PySem PySem.Spec PyProof.Rows L2
/-! the rules with the written part by itself: within a comprehension its block's own context must not be named -/
section
variable {W : Type} {R : Rsc W} {X : Cx} {K : PySem.W.Frag} {a b e : Expr} {ta tb te : TE} {fa fb fe : FE W} {pos p : Pos} {tg : Expr} {tA : TA} {fs : FA W}
theorem k_mul (hK : X.K = K) : OpD X R (binaryOp .Mult) (rMulD K) mulD := by subst hK; exact o_mul
theorem k_add (hK : X.K = K) : OpD X R (binaryOp .Add) (rAddD K) addD := by subst hK; exact o_add
theorem k_eq (hK : X.K = K) (hu : X.A.units + 64 < cLine) : OpD X R (compareOp .Eq) (rEqP K) eqD := by subst hK; exact o_eq hu
theorem k_ne (hK : X.K = K) (hu : X.A.units + 64 < cLine) : OpD X R (compareOp .NotEq) (rNeP K) neD := by subst hK; exact o_ne hu
theorem k_in (hK : X.K = K) (hu : X.A.units + 64 < cLine) : OpD X R (compareOp .In) (rInP K false) inD := by subst hK; exact o_in hu
theorem k_nin (hK : X.K = K) (hu : X.A.units + 64 < cLine) : OpD X R (compareOp .NotIn) (rInP K true) ninD := by subst hK; exact o_nin hu
theorem k_ix (hK : X.K = K) (ha : DQ X R a ta fa) (hb : DQ X R b tb fb) (hs : PlainIx b) : DE X R (.Subscript a b pos) (tOp (fun x y H Q => rIxL K x y H Q ∨ rIxT K x y H Q) ta tb) (e2 ixD fa fb) := by subst hK; exact de_ix ha hb hs
theorem k_slice (hK : X.K = K) {lo hi : Option Expr} {tl th : TO} {fl fh : FO W} {p2 : Pos} (he : DQ X R e te fe) (hl : DO X R lo tl fl) (hh : DO X R hi th fh) : DE X R (.Subscript e (.Slice lo hi none p2) pos) (tSl (fun x l h H Q => rSlA K x l h H Q ∨ rSlL K x l h H Q) te tl th) (eSlice fe fl fh) := by subst hK; exact de_slice he hl hh
theorem k_len (hK : X.K = K) : CallD X R (.builtin "len") (fun xs H Q => ∃ p ys, xs = [.ref p] ∧ (SqL K H p ys ∨ SqT K H p ys) ∧ Q (.int ys.length) H) lenD := by subst hK; exact c_len
theorem k_all (hK : X.K = K) (hc : X.calm = true) : CallD X R (.builtin "all") (rAll K) allD := by subst hK; exact c_all hc
theorem k_any (hK : X.K = K) (hc : X.calm = true) : CallD X R (.builtin "any") (rAny K) anyD := by subst hK; exact c_any hc
theorem k_max1 (hK : X.K = K) (hc : X.calm = true) : CallD X R (.builtin "max") (fun xs H Q => rMax2 xs H Q ∨ rMax K xs H Q) maxD1 := by subst hK; exact c_max1 hc
theorem k_min1 (hK : X.K = K) (hc : X.calm = true) : CallD X R (.builtin "min") (fun xs H Q => rMin2 xs H Q ∨ rMin K xs H Q) minD1 := by subst hK; exact c_min1 hc
theorem k_sorted1 (hK : X.K = K) : CallN X R (.builtin "sorted") (rSorted K) sortedD1 := by subst hK; exact c_sorted1
theorem k_list (hK : X.K = K) : CallN X R (.type "list") (fun xs H Q => ∃ p ys, xs = [.ref p] ∧ (SqL K H p ys ∨ SqT K H p ys) ∧ ∀ l, H l = none → Q (.ref l) (upd H l (.lst ys))) listD := by subst hK; exact c_list
theorem k_tuple (hK : X.K = K) : CallD X R (.type "tuple") (fun xs H Q => ∃ p ys, xs = [.ref p] ∧ ((SqL K H p ys ∧ ∀ l, H l = none → Q (.ref l) (upd H l (.tup ys))) ∨ (SqT K H p ys ∧ Q (.ref p) H))) tupleD := by subst hK; exact c_tuple
theorem k_sum (hK : X.K = K) (hc : X.calm = true) : CallD X R (.builtin "sum") (fun xs H Q => rSum K xs H Q ∨ rSumT K xs H Q) sumD := by subst hK; exact c_sum hc
theorem k_isi (hK : X.K = K) {T : String} {x2 : Str} {p2 : Pos} (hg : Gl X "isinstance") (hm : X.mg "isinstance" = none) (hb : bootBuiltins "isinstance" = some (.builtin "isinstance")) (hg2 : Gl X x2) (hm2 : X.mg x2 = none) (hb2 : bootBuiltins x2 = some (.type T)) (ha : DQ X R a ta fa)
    (hn2 : x2 ≠ "__name__") (hd2 : (x2 == ("__debug__" : Str)) = false) (s1 : starEach [a, .Name x2 p2] X.env = (false, eval a X.env) :: starEach [.Name x2 p2] X.env) (s2 : starEach [.Name x2 p2] X.env = (false, eval (.Name x2 p2) X.env) :: starEach [] X.env)
    (hpl : (backTo pos (starEach [.Name x2 p2] X.env)).any (·.1) = false) : DE X R (.Call (.Name "isinstance" p) [a, .Name x2 p2] [] pos) (tIsi K T ta) (e1 (isiD' T) fa) := by subst hK; exact de_isi hg hm hb hg2 hm2 hb2 ha hn2 hd2 s1 s2 hpl
theorem k_seq (hK : X.K = K) (h : DE X R e te fe) : DI X R tg e (iSeqT K te) (iSeq fe) := by subst hK; exact di_seq h
theorem k_seqJ (hK : X.K = K) (h : DQ X R e te fe) : DJ X R tg e (iSeqT K te) (iSeq fe) := by subst hK; exact dj_seq h
theorem k_enumA (hK : X.K = K) {elts : List Expr} {kk : Nat} {tpos : Pos} (hg : Gl X "enumerate") (hm : X.mg "enumerate" = none) (ha : DE X R e te fe) (hs : starEach [e] X.env = [(false, eval e X.env)]) (hs2 : starEach [e] X.env = (false, eval e X.env) :: starEach [] X.env) :
    DI X R (.Tuple elts kk tpos) (.Call (.Name "enumerate" p) [e] [] pos) (iEnA K te) (iEnumA fe) := by subst hK; exact di_enumA hg hm ha hs hs2
theorem k_zip (hK : X.K = K) {elts : List Expr} {kk : Nat} {tpos : Pos} (hg : Gl X "zip") (hm : X.mg "zip" = none) (ha : DA X R [a, b] tA fs) (hs : starEach [a, b] X.env = (false, eval a X.env) :: starEach [b] X.env) (hpl : (backTo pos (starEach [b] X.env)).any (·.1) = false) :
    DI X R (.Tuple elts kk tpos) (.Call (.Name "zip" p) [a, b] [] pos) (RZ.iZipA K tA) (iZipF fs) := by subst hK; exact di_zip hg hm ha hs hpl
variable {apos cpos : Pos}
theorem k_index (hK : X.K = K) (hu : X.A.units + 64 < cLine) (hu2 : X.A.units + 65 < cLine) (ha : DQ X R a ta fa) (hb : DQ X R b tb fb)
    (hbs : attributeBase a "index" X.env (eval a X.env) = eval a X.env) (hf : ((backTo cpos (starEach (b :: []) X.env)).all (fun x => !x.1) && (backToKw cpos (keywordEach [] X.env)).all (fun x => x.1.isSome)
      && decide ((b :: []).length + ([] : List Keyword).length + (if ([] : List Keyword).isEmpty then 0 else 1) < 30)) = true) (hl : (apos.endLine == cpos.line) = true) (hs : starEach (b :: []) X.env = (false, eval b X.env) :: starEach [] X.env)
    (hp : (backTo cpos (starEach [] X.env)).any (·.1) = false) : DE X R (.Call (.Attribute a "index" apos) [b] [] cpos) (tBM K "list" (rIndexD K) ta (tCons tb tNil)) (eIndex fa fb) := by subst hK; exact de_index hu hu2 ha hb hbs hf hl hs hp
variable {es : List Expr} {u : TGs} {uf : TgFs W} {sl : List Nat} {k n : Nat}
theorem gntK (hK : X.K = K) (hc : X.calm = true) (hn : (assignEach es X.env).length = n) (hst : (assignEach es X.env).findIdx? (·.1) = none) (hlen : TLen uf n) (h : DGns X R es u uf sl) : DGn X R (.Tuple es k pos) (gTup K n u) (tgT uf) sl := by subst hK; exact gnt hc hn hst hlen h
theorem ggtK (hK : X.K = K) (hc : X.calm = true) (hn : (assignEach es X.env).length = n) (hst : (assignEach es X.env).findIdx? (·.1) = none) (hlen : TLen uf n) (nx : ∀ ds η w c, ds.length ≠ n → uf ds η w ≠ .exc c) (h : DGs X R es u uf) : DG X R (.Tuple es k pos) (gTup K n u) (tgT uf) := by subst hK; exact ggt hc hn hst hlen nx h
end
end Cw

namespace Cw
open PySem PySem.Spec PyProof.Rows L2

/-! ### defs whose first argument is the thing beside the data -/
section
variable {α W : Type}
def spS (Rs : α → Rsc W) (f : List D → W → Res (D × W)) : Sp := fun vs H Q _ => ∃ (i : α) (us : List V) (F : Hp) (ds : List D) (w : W), vs = (Rs i).self :: us ∧ Wok (Rs i) F H w ∧ DnL F us ds ∧ Post (Rs i) F H (fun _ => False) (f ds w) (PV Q)
/-- a body's worth: n parameters behind the first, N names -/
def runS (n N : Nat) (g : FS W) (ds : List D) (w : W) : Res (D × W) := match Nat.beq ds.length n with
  | false => .stk
  | true => match g (Slot.hd :: (ds.map Slot.fr ++ List.replicate (N - (n + 1)) Slot.un)) w with
    | .ok (.rt d, w1) => .ok (d, w1)
    | .ok (.nx _, w1) => .ok (.none, w1)
    | .exc c => .exc c
    | _ => .stk
theorem StOk.startS {R : Rsc W} {F H : Hp} {w : W} {vs : List V} {ds : List D} {Nm : List Str} (k : Wok R F H w) (h : DnL F vs ds) (n : Nat) (hn : ds.length = n) (Xc : String → Prop) : StOk R ⟨F, H, Xc⟩ (Slot.hd :: (ds.map Slot.fr ++ List.replicate (Nm.length - (n + 1)) Slot.un)) w (L2.start Nm (R.self :: vs)) F H where
  wok := k
  ext := .refl
  len := by unfold L2.start; simp [h.len, hn]
  fr := fun {i d} e => by
    subst hn
    cases i with
    | zero => simp at e
    | succ i =>
      have e' : (ds.map Slot.fr ++ List.replicate (Nm.length - (ds.length + 1)) Slot.un)[i]? = some (Slot.fr d) := by simpa using e
      have z := h.at_map e'
      unfold L2.start
      rw [List.map_cons, List.length_cons, h.len, List.cons_append, List.getElem?_cons_succ]
      exact z
  ow := fun {i d} e => by
    cases i with
    | zero => simp at e
    | succ i => exact (no_ow (by simpa using e)).elim
  hd := fun {i} e => by
    cases i with
    | zero => rfl
    | succ i => exact (no_hd (by simpa using e)).elim
  inj := fun {i j d e p} q => by
    cases i with
    | zero => simp at q
    | succ i => exact (no_ow (by simpa using q)).elim
theorem spS_len {Rs : α → Rsc W} {n N : Nat} {g : FS W} {vs : List V} {H : Hp} {Q : VK} {E : XK} (h : spS Rs (runS n N g) vs H Q E) : vs.length = n + 1 := by
  obtain ⟨i, us, F, ds, w, rfl, k, hd, p⟩ := h
  unfold runS at p
  split at p
  · exact p.elim
  · rename_i hb
    rw [List.length_cons, hd.len, Nat.eq_of_beq_eq_true hb]
theorem body_endS {X : Cx} {body : List Stmt} {Rs : α → Rsc W} {t : TS} {i : α} {g : FS W} {Nm : List Str} {n : Nat} {vs : List V} {H : Hp} {Q : VK} (hN : X.N = Nm) (d : DSs X (Rs i) body t g) (h : ∃ (us : List V) (F : Hp) (ds : List D) (w : W), vs = (Rs i).self :: us ∧ Wok (Rs i) F H w ∧ DnL F us ds ∧ Post (Rs i) F H (fun _ => False) (runS n Nm.length g ds w) (PV Q)) :
    ∃ t, PSs X body t ∧ t { nx := fun _ H' => Q .non H', rt := Q } (start Nm vs) H := by
  obtain ⟨us, F, ds, w, rfl, k, hd, p⟩ := h
  refine ⟨t, d.ps, ?_⟩
  unfold runS at p
  split at p
  · exact p.elim
  · rename_i hb
    have hn : ds.length = n := Nat.eq_of_beq_eq_true hb
    refine d.rf _ _ _ _ F H (StOk.startS k hd n hn (fun _ => False)) _ ?_
    revert p
    generalize g (Slot.hd :: (ds.map Slot.fr ++ List.replicate (Nm.length - (n + 1)) Slot.un)) w = r
    intro p
    match r, p with
    | .ok (.rt d, w1), p => exact fun v F' H' e o hv => p F' H' e o v hv
    | .ok (.nx η, w1), p => exact fun σ' F' H' S => p F' H' S.ext S.wok _ .non
    | .ok (.bk η, w1), p => exact p.elim
    | .ok (.ct η, w1), p => exact p.elim
    | .exc c, p => exact p
    | .stk, p => exact p.elim
structure CalleeS (P : Program) (w : World) (K : PySem.W.Frag) (mg : Str → Option Value) (base : Heap) (x : Str) (k : Nat) (Rs : α → Rsc W) (m : List D → W → Res (D × W)) : Prop where
  ex : ∃ f fd ps, FnOk P w K mg base CX0 k f fd ps (spS Rs m) ∧ mg x = some (.ref f) ∧ PySem.W.keepIn K (.ref f) = true ∧ Binds K fd ps []
def noXS (r : Res (D × W)) : Res (D × W) := match r with
  | .exc _ => .stk
  | r => r
def eFnS (i : Nat) (m : List D → W → Res (D × W)) (fs : FA W) : FE W := fun η w => match η[i]? with
  | some .hd => bindM (fs η w) fun ds w1 => noXS (m ds w1)
  | _ => .stk
variable {X : Cx} {Rs : α → Rsc W} {x y : Str} {p pos : Pos} {e : Expr} {es : List Expr} {t : TA} {m : List D → W → Res (D × W)} {fs : FA W} {k : Nat} {j : α} {ypos : Pos}
theorem de_callS (i : Nat) (C : CalleeS X.prog X.w X.K X.mg X.base x k Rs m) (hr : Room k X.A) (hg : Gl X x) (hN : X.N[i]? = some y) (hv : Vis X.env.scope y) (hd : (y == ("__debug__" : Str)) = false) (hcd : (y == ("__classdict__" : Str)) = false)
    (ha : DA X (Rs j) es t fs) (hdb : (x == ("__debug__" : Str)) = false) (he : starEach (.Name y ypos :: es) X.env = (false, eval (.Name y ypos) X.env) :: starEach es X.env) (hpl : (backTo pos (starEach es X.env)).any (·.1) = false) :
    DE X (Rs j) (.Call (.Name x p) (.Name y ypos :: es) [] pos) (tCall (spS Rs m) [] E0 (tCons (tVar i) t)) (eFnS i m fs) := by
  obtain ⟨f, fd, ps, F, hm, hk, hb⟩ := C.ex
  refine ⟨pe_call F hr hg hm hk hb .nil pass0 (pa_cons (pe_var hN hv hd hcd) ha.pa he) hdb he hpl, fun B η w σ F H S Q q => ?_⟩
  unfold eFnS at q
  split at q
  · rename_i hh
    refine ⟨_, S.hd hh, ha.rf B η w σ F H S _ (q.bind fun ds w1 F1 H1 e1 k1 q vs hvs => ?_)⟩
    refine ⟨j, vs, F1, ds, w1, by simp, k1, hvs, ?_⟩
    revert q
    generalize m ds w1 = r
    intro q
    match r, q with
    | .ok (d, w2), q => exact q
    | .exc c, q => exact q.elim
    | .stk, q => exact q.elim
  · exact q.elim
end

/-! ### the bag from which a law draws -/
structure Bag where
  gs : List Int
  seed : Int
  n : Int
  cnt : Int
def BagAt (a g : Addr) (b : Bag) (H : Hp) : Prop := H a = some (.lst [.ref g, .int b.seed, .int b.n, .int b.cnt]) ∧ H g = some (.lst (b.gs.map V.int)) ∧ b.gs.length ≤ 1000
def bagR (i : Addr × Addr) : Rsc Bag where
  foot b := b = i.1 ∨ b = i.2
  self := .ref i.1
  ok b H := BagAt i.1 i.2 b H
  stable := fun {w H H'} h k => by
    obtain ⟨h1, h2, h3⟩ := h
    exact ⟨by rw [k _ (.inl rfl)]; exact h1, by rw [k _ (.inr rfl)]; exact h2, h3⟩
  there := fun {w H b} h f => by
    obtain ⟨h1, h2, h3⟩ := h
    rcases f with rfl | rfl
    · exact ⟨_, h1, fun z => z⟩
    · exact ⟨_, h2, fun z => z⟩
/-- what a draw gives -/
def pickB (many : Int) (b : Bag) : Int × Bag :=
  if b.n = 0 then (0, b) else match b.gs with
    | g :: r => (g % many, if g < many then { b with gs := r } else { b with gs := (g / many) :: r })
    | [] =>
      let c := b.cnt + 1
      let x := ((b.seed + 7919 * c) * 48271 + 11) % 2147483647
      let y := (x * (x / 1009 + 69621) + c) % 2147483399
      ((y / 16) % many, { b with cnt := c, seed := (b.seed + y) % 2147483629 })
theorem pickB_range {many : Int} (h : 0 < many) (b : Bag) : 0 ≤ (pickB many b).1 ∧ (pickB many b).1 < many := by
  unfold pickB
  split
  · exact ⟨Int.le_refl _, h⟩
  · split
    · exact ⟨Int.emod_nonneg _ (by omega), Int.emod_lt_of_pos _ h⟩
    · exact ⟨Int.emod_nonneg _ (by omega), Int.emod_lt_of_pos _ h⟩
def m_pick (ds : List D) (b : Bag) : Res (D × Bag) := match ds with
  | [.int many] => match decide (0 < many) && decide (many < 1000000) with
    | true => .ok (.int (pickB many b).1, (pickB many b).2)
    | false => .stk
  | _ => .stk
/-- the bag is changed -/
theorem bag_step {a g : Addr} {F H H' : Hp} {b b' : Bag} (k : Wok (bagR (a, g)) F H b) (h : BagAt a g b' H') (keep : ∀ q o, q ≠ a → q ≠ g → H q = some o → H' q = some o) : Ext (bagR (a, g)) F H F H' ∧ Wok (bagR (a, g)) F H' b' := by
  have fa : F a = none := k.nf (.inl rfl)
  have fg : F g = none := k.nf (.inr rfl)
  refine ⟨⟨Sub.refl F, fun {q o} n _ z => keep q o (fun e => n (.inl e)) (fun e => n (.inr e)) z, fun _ _ _ z => z⟩, ⟨fun q o z => ?_, k.nf, h⟩⟩
  have na : q ≠ a := fun e => by subst e; rw [fa] at z; cases z
  have ng : q ≠ g := fun e => by subst e; rw [fg] at z; cases z
  rcases k.sub q o z with z' | ⟨d, od, z'⟩
  · exact .inl (keep q o na ng z')
  · exact .inr ⟨d, od, keep q _ na ng z'⟩
end Cw
namespace Cw
open PySem PySem.Spec PyProof.Rows L2
/-- where a law begins to draw -/
theorem law_start {H : Hp} {p g a : Addr} {b : Bag} (h : BagAt p g b H) (n : Nat) : StOk (bagR (p, g)) ⟨fun _ => none, H, fun _ => False⟩ (Slot.un :: Slot.hd :: List.replicate n Slot.un) b (some (.ref a) :: some (.ref p) :: List.replicate n none) (fun _ => none) H := by
  have ns : ∀ (i : Nat) (s : Slot), (Slot.un :: Slot.hd :: List.replicate n Slot.un)[i]? = some s → s = .un ∨ s = .hd := fun i s e => by
    rcases List.mem_cons.mp (List.mem_of_getElem? e) with e | e
    · exact .inl e
    · rcases List.mem_cons.mp e with e | e
      · exact .inr e
      · exact .inl (List.mem_replicate.mp e).2
  refine ⟨⟨(fun a o e => by cases e), fun _ => rfl, h⟩, .refl, by simp, fun e => ?_, fun e => ?_, fun {i} e => ?_, fun e => ?_⟩
  · rcases ns _ _ e with z | z <;> cases z
  · rcases ns _ _ e with z | z <;> cases z
  · match i with
    | 0 => simp at e
    | 1 => rfl
    | i + 2 =>
      have z : (List.replicate n Slot.un)[i]? = some Slot.hd := by simpa using e
      cases (List.mem_replicate.mp (List.mem_of_getElem? z)).2
  · rcases ns _ _ e with z | z <;> cases z
/-- a def of the text where the top has put it -/
def FunAt (K : PySem.W.Frag) (x : Str) (st : Stmt) : Prop := ∃ f fd, PySem.W.nsIn K mainGlobals x = some (some (.ref f)) ∧ Fun K x x st f fd
theorem funAt_mk {K : PySem.W.Frag} {x : Str} {st : Stmt} {f : Addr} {oc : Value} {od an : Option Addr} {osl : Array (Option Value)} {kV doc pm cdv ct : Value} (a : PySem.W.nsIn K mainGlobals x = some (some (.ref f)))
    (l : K.lookup f = some ⟨oc, od, .func (PySem.W.fnOf x x (defArgs st) (defBody st) (defScope st) .none kV doc pm an cdv ct), osl⟩) (c : PySem.W.codeIn K cdv x = true) (k : PySem.W.keepIn K (.ref f) = true) : FunAt K x st := ⟨f, _, a, fun_mk l c k⟩
end Cw

namespace Cw
open PySem PySem.Spec PyProof.Rows L2
/-! ### what leaves the thing beside the data alone -/
section
variable {W α β : Type}
def up (r : Res (α × Unit)) (w : W) : Res (α × W) := match r with
  | .ok (a, _) => .ok (a, w)
  | .exc c => .exc c
  | .stk => .stk
theorem bind_up {r : Res (α × Unit)} {w : W} {k : α → W → Res (β × W)} {k' : α → Unit → Res (β × Unit)} (h : ∀ a, k a w = up (k' a ()) w) : bindM (up r w) k = up (bindM r k') w := match r with
  | .ok (a, ()) => h a
  | .exc c => rfl
  | .stk => rfl
theorem lift_up (r : Res α) (w : W) : liftM r w = up (liftM r ()) w := match r with
  | .ok a => rfl
  | .exc c => rfl
  | .stk => rfl
class Nt (f : EnvD → W → Res (α × W)) (f' : outParam (EnvD → Unit → Res (α × Unit))) : Prop where
  h : ∀ η w, f η w = up (f' η ()) w
class NtG (f : α → EnvD → W → Res (EnvD × W)) (f' : outParam (α → EnvD → Unit → Res (EnvD × Unit))) : Prop where
  h : ∀ d η w, f d η w = up (f' d η ()) w
variable {fa fb fc fe : FE W} {fa' fb' fc' fe' : FE Unit} {ft fu : FT W} {ft' fu' : FT Unit} {fs : FA W} {fs' : FA Unit} {ga gb gc : FS W} {ga' gb' gc' : FS Unit} {fl fh : FO W} {fl' fh' : FO Unit} {fi : FI W} {fi' : FI Unit} {fm : FM W} {fm' : FM Unit} {tg : TgF W} {tg' : TgF Unit} {tgs : TgFs W} {tgs' : TgFs Unit} {i j : Nat}
instance nt_eV : Nt (eV i : FE W) (eV i) := ⟨fun η w => by unfold eV; rcases η[i]? with _ | (_ | _ | _ | _) <;> rfl⟩
instance nt_eVq : Nt (eVq i : FE W) (eVq i) := ⟨fun η w => by unfold eVq; rcases η[i]? with _ | (_ | _ | _ | _) <;> rfl⟩
instance nt_eC {d : D} : Nt (eC d : FE W) (eC d) := ⟨fun η w => rfl⟩
instance nt_e2 {f : D → D → Res D} [Nt fa fa'] [Nt fb fb'] : Nt (e2 f fa fb) (e2 f fa' fb') := ⟨fun η w => by unfold e2; rw [Nt.h (f := fa)]; exact bind_up fun a => by rw [Nt.h (f := fb)]; exact bind_up fun b => lift_up _ _⟩
instance nt_e1 {f : D → Res D} [Nt fa fa'] : Nt (e1 f fa) (e1 f fa') := ⟨fun η w => by unfold e1; rw [Nt.h (f := fa)]; exact bind_up fun a => lift_up _ _⟩
instance nt_tst [Nt fa fa'] : Nt (tst fa) (tst fa') := ⟨fun η w => by unfold tst asB; rw [Nt.h (f := fa)]; exact bind_up fun a => by cases a <;> rfl⟩
instance nt_eChain {f g : D → D → Res D} [Nt fa fa'] [Nt fb fb'] [Nt fc fc'] : Nt (eChain f g fa fb fc) (eChain f g fa' fb' fc') := ⟨fun η w => by
  unfold eChain; rw [Nt.h (f := fa)]; exact bind_up fun a => by
    rw [Nt.h (f := fb)]; exact bind_up fun b => by
      rw [lift_up]; exact bind_up fun d => by
        cases d with
        | bool d => cases d with
          | true => show bindM (fc η w) _ = _; rw [Nt.h (f := fc)]; exact bind_up fun c => lift_up _ _
          | false => rfl
        | _ => rfl⟩
instance nt_tAnd [Nt ft ft'] [Nt fu fu'] : Nt (tAndF ft fu) (tAndF ft' fu') := ⟨fun η w => by unfold tAndF; rw [Nt.h (f := ft)]; exact bind_up fun b => by cases b with
  | true => exact Nt.h η w
  | false => rfl⟩
instance nt_tOr [Nt ft ft'] [Nt fu fu'] : Nt (tOrF ft fu) (tOrF ft' fu') := ⟨fun η w => by unfold tOrF; rw [Nt.h (f := ft)]; exact bind_up fun b => by cases b with
  | false => exact Nt.h η w
  | true => rfl⟩
instance nt_tNot [Nt ft ft'] : Nt (tNotF ft) (tNotF ft') := ⟨fun η w => by unfold tNotF; rw [Nt.h (f := ft)]; exact bind_up fun b => rfl⟩
instance nt_tYes : Nt (tYesF : FT W) tYesF := ⟨fun η w => rfl⟩
instance nt_eAnd [Nt fa fa'] [Nt fb fb'] : Nt (eAnd fa fb) (eAnd fa' fb') := ⟨fun η w => by
  unfold eAnd; rw [Nt.h (f := fa)]; exact bind_up fun d => by
    cases d with
    | bool d => cases d with
      | true => exact Nt.h η w
      | false => rfl
    | _ => rfl⟩
instance nt_eOr [Nt fa fa'] [Nt fb fb'] : Nt (eOr fa fb) (eOr fa' fb') := ⟨fun η w => by
  unfold eOr; rw [Nt.h (f := fa)]; exact bind_up fun d => by
    cases d with
    | bool d => cases d with
      | false => exact Nt.h η w
      | true => rfl
    | _ => rfl⟩
instance nt_eNot [Nt fa fa'] : Nt (eNot fa) (eNot fa') := ⟨fun η w => by unfold eNot; rw [Nt.h (f := fa)]; exact bind_up fun d => by cases d <;> rfl⟩
instance nt_eIf [Nt ft ft'] [Nt fa fa'] [Nt fb fb'] : Nt (eIf ft fa fb) (eIf ft' fa' fb') := ⟨fun η w => by unfold eIf; rw [Nt.h (f := ft)]; exact bind_up fun b => by cases b <;> exact Nt.h η w⟩
instance nt_aNil : Nt (aNil : FA W) aNil := ⟨fun η w => rfl⟩
instance nt_aCons [Nt fa fa'] [Nt fs fs'] : Nt (aCons fa fs) (aCons fa' fs') := ⟨fun η w => by unfold aCons; rw [Nt.h (f := fa)]; exact bind_up fun a => by rw [Nt.h (f := fs)]; exact bind_up fun b => rfl⟩
instance nt_eTup [Nt fs fs'] : Nt (eTup fs) (eTup fs') := ⟨fun η w => by unfold eTup; rw [Nt.h (f := fs)]; exact bind_up fun ds => by split <;> rfl⟩
instance nt_eLst [Nt fs fs'] : Nt (eLst fs) (eLst fs') := ⟨fun η w => by unfold eLst; rw [Nt.h (f := fs)]; exact bind_up fun ds => by split <;> rfl⟩
instance nt_eCall {f : List D → Res D} [Nt fs fs'] : Nt (eCall f fs) (eCall f fs') := ⟨fun η w => by unfold eCall; rw [Nt.h (f := fs)]; exact bind_up fun a => lift_up _ _⟩
instance nt_eFn {f : List D → Res D} [Nt fs fs'] : Nt (eFn f fs) (eFn f fs') := ⟨fun η w => by unfold eFn; rw [Nt.h (f := fs)]; exact bind_up fun a => lift_up _ _⟩
instance nt_oNone : Nt (oNone : FO W) oNone := ⟨fun η w => rfl⟩
instance nt_oSome [Nt fa fa'] : Nt (oSome fa) (oSome fa') := ⟨fun η w => by unfold oSome; rw [Nt.h (f := fa)]; exact bind_up fun d => by cases d <;> rfl⟩
instance nt_eSlice [Nt fa fa'] [Nt fl fl'] [Nt fh fh'] : Nt (eSlice fa fl fh) (eSlice fa' fl' fh') := ⟨fun η w => by
  unfold eSlice; rw [Nt.h (f := fa)]; exact bind_up fun d => by rw [Nt.h (f := fl)]; exact bind_up fun lo => by rw [Nt.h (f := fh)]; exact bind_up fun hi => by cases d <;> rfl⟩
instance nt_g1 [Nt fa fa'] : Nt (g1 fa) (g1 fa') := ⟨fun η w => by unfold g1; rw [Nt.h (f := fa)]; exact bind_up fun d => by cases d <;> rfl⟩
instance nt_g2 [Nt fa fa'] [Nt fb fb'] : Nt (g2 fa fb) (g2 fa' fb') := ⟨fun η w => by unfold g2; rw [Nt.h (f := fa)]; exact bind_up fun d => by rw [Nt.h (f := fb)]; exact bind_up fun e => by cases d <;> cases e <;> rfl⟩
instance nt_eRgL {f : EnvD → W → Res ((Int × Int) × W)} {f' : EnvD → Unit → Res ((Int × Int) × Unit)} [Nt f f'] : Nt (eRgL f) (eRgL f') := ⟨fun η w => by unfold eRgL; rw [Nt.h (f := f)]; exact bind_up fun d => by split <;> rfl⟩
instance nt_eRgT {f : EnvD → W → Res ((Int × Int) × W)} {f' : EnvD → Unit → Res ((Int × Int) × Unit)} [Nt f f'] : Nt (eRgT f) (eRgT f') := ⟨fun η w => by unfold eRgT; rw [Nt.h (f := f)]; exact bind_up fun d => by split <;> rfl⟩
theorem chk_up (xs : List D) (w : W) : chk xs w = up (chk xs ()) w := by unfold chk; split <;> rfl
instance nt_iSeq [Nt fa fa'] : Nt (iSeq fa) (iSeq fa') := ⟨fun η w => by
  unfold iSeq; rw [Nt.h (f := fa)]; exact bind_up fun d => by
    cases d with
    | list xs => exact chk_up xs w
    | tuple xs => exact chk_up xs w
    | _ => rfl⟩
instance nt_iRg1 [Nt fs fs'] : Nt (iRg1 fs) (iRg1 fs') := ⟨fun η w => by
  unfold iRg1; rw [Nt.h (f := fs)]; exact bind_up fun d => by
    rcases d with _ | ⟨a, _ | ⟨b, r⟩⟩
    · rfl
    · cases a with
      | int j => dsimp only; generalize (decide (j ≤ 1000000) && decide (-1000000 ≤ j)) = c; cases c <;> rfl
      | _ => rfl
    · cases a <;> rfl⟩
instance nt_iRg2 [Nt fs fs'] : Nt (iRg2 fs) (iRg2 fs') := ⟨fun η w => by
  unfold iRg2; rw [Nt.h (f := fs)]; exact bind_up fun d => by
    rcases d with _ | ⟨a, _ | ⟨b, _ | ⟨c, r⟩⟩⟩
    · rfl
    · cases a <;> rfl
    · cases a with
      | int i => cases b with
        | int j => dsimp only; generalize (decide (j ≤ 500000) && decide (-500000 ≤ j) && decide (-500000 ≤ i) && decide (i ≤ 500000)) = c; cases c <;> rfl
        | _ => rfl
      | _ => rfl
    · cases a <;> cases b <;> rfl⟩
instance nt_iEnumA [Nt fa fa'] : Nt (iEnumA fa) (iEnumA fa') := ⟨fun η w => by
  unfold iEnumA; rw [Nt.h (f := fa)]; exact bind_up fun d => by
    cases d with
    | list xs => dsimp only; split <;> rfl
    | tuple xs => dsimp only; split <;> rfl
    | _ => rfl⟩
instance nt_iKeys [Nt fa fa'] : Nt (iKeysF fa) (iKeysF fa') := ⟨fun η w => by
  unfold iKeysF; rw [Nt.h (f := fa)]; exact bind_up fun d => by
    cases d with
    | dict kvs =>
      rcases kvs with _ | ⟨⟨k, v⟩, r⟩
      · rfl
      · cases k <;> try rfl
        dsimp only
        split <;> rfl
    | _ => rfl⟩
instance nt_tgN : NtG (tgN i : TgF W) (tgN i) := ⟨fun d η w => rfl⟩
instance nt_tgT [NtG tgs tgs'] : NtG (tgT tgs) (tgT tgs') := ⟨fun d η w => by
  unfold tgT
  cases d with
  | tuple ds => exact NtG.h ds η w
  | _ => rfl⟩
instance nt_tgNil : NtG (tgNil : TgFs W) tgNil := ⟨fun d η w => by unfold tgNil; cases d <;> rfl⟩
instance nt_tgCons [NtG tg tg'] [NtG tgs tgs'] : NtG (tgCons tg tgs) (tgCons tg' tgs') := ⟨fun d η w => by
  unfold tgCons
  cases d with
  | nil => rfl
  | cons d r => dsimp only; rw [NtG.h (f := tg)]; exact bind_up fun η1 => NtG.h r η1 w⟩
theorem forL_up [NtG tg tg'] [Nt ga ga'] (ds : List D) : ∀ (η : EnvD) (w : W), forL tg ga ds η w = up (forL tg' ga' ds η ()) w := by
  induction ds with
  | nil => exact fun η w => rfl
  | cons d r ih =>
    intro η w
    unfold forL
    rw [NtG.h (f := tg)]
    exact bind_up fun η1 => by
      rw [Nt.h (f := ga)]
      exact bind_up fun o => by cases o with
        | nx η' => exact ih η' w
        | ct η' => exact ih η' w
        | bk η' => rfl
        | rt d => rfl
instance nt_sFor [Nt fi fi'] [NtG tg tg'] [Nt ga ga'] : Nt (sFor fi tg ga) (sFor fi' tg' ga') := ⟨fun η w => by unfold sFor; rw [Nt.h (f := fi)]; exact bind_up fun ds => forL_up ds η w⟩
theorem lcL_up {own : List Nat} [NtG tg tg'] [Nt ft ft'] [Nt fe fe'] (ds : List D) : ∀ (η : EnvD) (w : W), lcL own tg ft fe ds η w = up (lcL own tg' ft' fe' ds η ()) w := by
  induction ds with
  | nil => exact fun η w => rfl
  | cons d r ih =>
    intro η w
    unfold lcL
    rw [NtG.h (f := tg)]
    exact bind_up fun η1 => by
      rw [Nt.h (f := ft)]
      exact bind_up fun b => by cases b with
        | true => dsimp only; rw [Nt.h (f := fe)]; exact bind_up fun y => by rw [ih]; exact bind_up fun ys => rfl
        | false => exact ih η w
instance nt_eLc {own : List Nat} [Nt fi fi'] [NtG tg tg'] [Nt ft ft'] [Nt fe fe'] : Nt (eLc fi own tg ft fe) (eLc fi' own tg' ft' fe') := ⟨fun η w => by
  unfold eLc; rw [Nt.h (f := fi)]; exact bind_up fun ds => by rw [lcL_up (tg' := tg') (ft' := ft') (fe' := fe')]; exact bind_up fun ys => rfl⟩
instance nt_sNil : Nt (sNil : FS W) sNil := ⟨fun η w => rfl⟩
instance nt_sStk : Nt (sStk : FS W) sStk := ⟨fun η w => rfl⟩
instance nt_sBrk : Nt (sBrk : FS W) sBrk := ⟨fun η w => rfl⟩
instance nt_sCnt : Nt (sCnt : FS W) sCnt := ⟨fun η w => rfl⟩
instance nt_sSeq [Nt ga ga'] [Nt gb gb'] : Nt (sSeq ga gb) (sSeq ga' gb') := ⟨fun η w => by unfold sSeq; rw [Nt.h (f := ga)]; exact bind_up fun o => by cases o with
  | nx η' => exact Nt.h η' w
  | _ => rfl⟩
instance nt_sIf [Nt ft ft'] [Nt ga ga'] [Nt gb gb'] : Nt (sIf ft ga gb) (sIf ft' ga' gb') := ⟨fun η w => by unfold sIf; rw [Nt.h (f := ft)]; exact bind_up fun b => by cases b <;> exact Nt.h η w⟩
instance nt_sSet [Nt fa fa'] : Nt (sSet i fa) (sSet i fa') := ⟨fun η w => by unfold sSet; rw [Nt.h (f := fa)]; exact bind_up fun d => rfl⟩
instance nt_sSetN [Nt fa fa'] : Nt (sSetN i fa) (sSetN i fa') := ⟨fun η w => by unfold sSetN; rw [Nt.h (f := fa)]; exact bind_up fun d => rfl⟩
instance nt_sRet [Nt fa fa'] : Nt (sRet fa) (sRet fa') := ⟨fun η w => by unfold sRet; rw [Nt.h (f := fa)]; exact bind_up fun d => rfl⟩
instance nt_sDrop [Nt fa fa'] : Nt (sDrop fa) (sDrop fa') := ⟨fun η w => by unfold sDrop; rw [Nt.h (f := fa)]; exact bind_up fun d => rfl⟩
instance nt_sFz [Nt ga ga'] : Nt (sFz i ga) (sFz i ga') := ⟨fun η w => by unfold sFz; rcases η[i]? with _ | (_ | _ | _ | _) <;> exact Nt.h _ w⟩
instance nt_sAsg [Nt fa fa'] [NtG tg tg'] : Nt (sAsg fa tg) (sAsg fa' tg') := ⟨fun η w => by unfold sAsg; rw [Nt.h (f := fa)]; exact bind_up fun d => by rw [NtG.h (f := tg)]; exact bind_up fun e => rfl⟩
instance nt_sApp [Nt fa fa'] : Nt (sApp i fa) (sApp i fa') := ⟨fun η w => by
  unfold sApp
  cases ownL η i with
  | none => rfl
  | some xs => dsimp only; rw [Nt.h (f := fa)]; exact bind_up fun d => by split <;> rfl⟩
instance nt_sExt [Nt fa fa'] : Nt (sExt i fa) (sExt i fa') := ⟨fun η w => by
  unfold sExt
  cases ownL η i with
  | none => rfl
  | some xs =>
    dsimp only
    rw [Nt.h (f := fa)]
    exact bind_up fun d => by
      cases d with
      | list ys => dsimp only; split <;> rfl
      | _ => rfl⟩
instance nt_tgSub [Nt fa fa'] : NtG (tgSub i fa) (tgSub i fa') := ⟨fun d η w => by
  unfold tgSub
  cases ownL η i with
  | none => rfl
  | some xs =>
    dsimp only
    rw [Nt.h (f := fa)]
    exact bind_up fun k => by
      cases k with
      | int k => dsimp only; split <;> rfl
      | _ => rfl⟩
instance nt_sAug {op : D → D → Res D} [Nt fa fa'] : Nt (sAug i op fa) (sAug i op fa') := ⟨fun η w => by
  unfold sAug
  rcases η[i]? with _ | (_ | d | _ | _) <;> try rfl
  dsimp only
  rw [Nt.h (f := fa)]
  exact bind_up fun y => by rw [lift_up]; exact bind_up fun z => rfl⟩
instance nt_mNil : Nt (mNil : FM W) mNil := ⟨fun η w => rfl⟩
instance nt_mFr [Nt fa fa'] [Nt fm fm'] : Nt (mFr fa fm) (mFr fa' fm') := ⟨fun η w => by unfold mFr; rw [Nt.h (f := fa)]; exact bind_up fun d => by rw [Nt.h (f := fm)]; exact bind_up fun sl => rfl⟩
instance nt_mOw [Nt fa fa'] [Nt fm fm'] : Nt (mOw fa fm) (mOw fa' fm') := ⟨fun η w => by unfold mOw; rw [Nt.h (f := fa)]; exact bind_up fun d => by rw [Nt.h (f := fm)]; exact bind_up fun sl => rfl⟩
instance nt_sPar [Nt fm fm'] : Nt (sPar i j fm) (sPar i j fm') := ⟨fun η w => by unfold sPar; rw [Nt.h (f := fm)]; exact bind_up fun sl => by rcases sl with _ | ⟨a, _ | ⟨b, _ | ⟨c, r⟩⟩⟩ <;> rfl⟩
/-- a part that leaves it alone, run -/
theorem Nt.ok {f : EnvD → W → Res (α × W)} {f' : EnvD → Unit → Res (α × Unit)} [Nt f f'] {η : EnvD} {a : α} (e : f' η () = .ok (a, ())) (w : W) : f η w = .ok (a, w) := by rw [Nt.h (f := f), e]; rfl
end
end Cw

namespace Cw
open PySem PySem.Spec PyProof.Rows L2
/-! ### numbers read from data, and back -/
def iD (n : Nat) : D := .int (n : Int)
def pN : D → Option Nat
  | .int (.ofNat n) => some n
  | _ => none
theorem pN_eq {d : D} {n : Nat} (h : pN d = some n) : d = iD n := by
  cases d with
  | int i => cases i with
    | ofNat m => cases h; rfl
    | negSucc m => cases h
  | _ => cases h
def pL {α : Type} (p : D → Option α) : List D → Option (List α)
  | [] => some []
  | d :: r => match p d, pL p r with
    | some a, some as => some (a :: as)
    | _, _ => none
theorem pL_eq {α : Type} {p : D → Option α} {e : α → D} (h : ∀ d a, p d = some a → d = e a) : ∀ {ds : List D} {as : List α}, pL p ds = some as → ds = as.map e
  | [], as, q => by cases q; rfl
  | d :: r, as, q => by
    unfold pL at q
    split at q
    · rename_i a as' h1 h2
      cases q
      rw [h d a h1, pL_eq h h2]; rfl
    · cases q
def pP : D → Option (Nat × Nat)
  | .tuple [.int (.ofNat a), .int (.ofNat b)] => some (a, b)
  | _ => none
def eP (x : Nat × Nat) : D := .tuple [iD x.1, iD x.2]
theorem pP_eq {d : D} {x : Nat × Nat} (h : pP d = some x) : d = eP x := by
  unfold pP at h
  split at h
  · cases h; rfl
  · cases h
def eLt (l : List Nat) : D := .tuple (l.map iD)
def pLt : D → Option (List Nat)
  | .tuple xs => pL pN xs
  | _ => none
theorem pLt_eq {d : D} {x : List Nat} (h : pLt d = some x) : d = eLt x := by
  cases d with
  | tuple xs => unfold eLt; rw [pL_eq (fun _ _ => pN_eq) h]
  | _ => cases h
/-! ### loops, walked -/
section
variable {W : Type}
theorem forL_inv {σ : Type} {tg : TgF W} {g : FS W} {w : W} (P : σ → EnvD → Prop) (step : σ → D → σ) : ∀ (ds : List D) (s : σ) (η : EnvD),
    (∀ d ∈ ds, ∀ s η, P s η → ∃ η', bindM (tg d η w) (fun η1 w1 => g η1 w1) = .ok (.nx η', w) ∧ P (step s d) η') → P s η → ∃ η', forL tg g ds η w = .ok (.nx η', w) ∧ P (ds.foldl step s) η'
  | [], s, η, h, p => ⟨η, rfl, p⟩
  | d :: r, s, η, h, p => by
    obtain ⟨η1, e, p1⟩ := h d (List.mem_cons_self ..) s η p
    obtain ⟨η2, e2, p2⟩ := forL_inv P step r (step s d) η1 (fun d hd => h d (List.mem_cons_of_mem _ hd)) p1
    refine ⟨η2, ?_, p2⟩
    rw [← e2]
    show bindM (tg d η w) (fun η1 w1 => bindM (g η1 w1) _) = _
    revert e
    generalize tg d η w = r0
    intro e
    match r0, e with
    | .ok (a, w1), e =>
      show bindM (g a w1) _ = _
      rw [show g a w1 = .ok (.nx η1, w) from e]; rfl
    | .exc c, e => cases e
    | .stk, e => cases e
theorem lcL_map {own : List Nat} {i : Nat} {ft : FT W} {fe : FE W} {η : EnvD} {w : W} (g : D → Option D) : ∀ (ds : List D),
    (∀ d ∈ ds, ft ((wipeD η own).set i (.fr d)) w = .ok ((g d).isSome, w) ∧ ∀ y, g d = some y → fe ((wipeD η own).set i (.fr d)) w = .ok (y, w)) → lcL own (tgN i) ft fe ds η w = .ok (ds.filterMap g, w)
  | [], h => rfl
  | d :: r, h => by
    obtain ⟨h1, h2⟩ := h d (List.mem_cons_self ..)
    have ih := lcL_map (own := own) (i := i) (ft := ft) (fe := fe) (η := η) (w := w) g r fun d hd => h d (List.mem_cons_of_mem _ hd)
    show bindM (ft ((wipeD η own).set i (.fr d)) w) _ = _
    rw [h1]
    cases e : g d with
    | none => rw [List.filterMap_cons_none e]; exact ih
    | some y =>
      rw [List.filterMap_cons_some e]
      show bindM (fe ((wipeD η own).set i (.fr d)) w) _ = _
      rw [h2 y e]
      show bindM (lcL own (tgN i) ft fe r η w) _ = _
      rw [ih]; rfl
end
theorem atI_nat {α : Type} {xs : List α} {p : Nat} (h : p < xs.length) : L2.atI xs (p : Int) = some xs[p] := by
  unfold L2.atI L2.ixN
  rw [if_pos (Int.natCast_nonneg p), if_pos (by omega)]
  simp [h]
theorem ixN_nat {n p : Nat} (h : p < n) : L2.ixN n (p : Int) = some p := by
  unfold L2.ixN
  rw [if_pos (Int.natCast_nonneg p), if_pos (by omega)]
  simp
theorem ixD_list {xs : List D} {p : Nat} (h : p < xs.length) : ixD (.list xs) (iD p) = .ok (xs[p]) := by
  unfold ixD iD
  simp only [atI_nat h]
theorem ixD_tup {xs : List D} {p : Nat} (h : p < xs.length) : ixD (.tuple xs) (iD p) = .ok (xs[p]) := by
  unfold ixD iD
  simp only [atI_nat h]
theorem rgD_nat (n : Nat) : rgD 0 (n : Int) = (List.range n).map iD := by
  unfold rgD iD
  simp
section
variable {W : Type} {η η1 η2 : EnvD} {w w1 w2 w3 : W} {fa fb fc fe : FE W} {ft : FT W} {fs : FA W} {ga gb : FS W} {fi : FI W} {tg : TgF W} {a b c d : D} {ds es : List D}
theorem e2_ok {f : D → D → Res D} (h1 : fa η w = .ok (a, w1)) (h2 : fb η w1 = .ok (b, w2)) (h3 : f a b = .ok d) : e2 f fa fb η w = .ok (d, w2) := by
  unfold e2; rw [h1]; show Cw.bindM (fb η w1) _ = _; rw [h2]; show Cw.liftM (f a b) w2 = _; rw [h3]; rfl
theorem e1_ok {f : D → Res D} (h1 : fa η w = .ok (a, w1)) (h3 : f a = .ok d) : e1 f fa η w = .ok (d, w1) := by
  unfold e1; rw [h1]; show Cw.liftM (f a) w1 = _; rw [h3]; rfl
theorem aCons_ok (h1 : fa η w = .ok (a, w1)) (h2 : fs η w1 = .ok (ds, w2)) : aCons fa fs η w = .ok (a :: ds, w2) := by
  unfold aCons; rw [h1]; show Cw.bindM (fs η w1) _ = _; rw [h2]; rfl
theorem eFn_ok {f : List D → Res D} (h1 : fs η w = .ok (ds, w1)) (h3 : f ds = .ok d) : eFn f fs η w = .ok (d, w1) := by
  unfold eFn; rw [h1]; show Cw.liftM (f ds) w1 = _; rw [h3]; rfl
theorem eCall_ok {f : List D → Res D} (h1 : fs η w = .ok (ds, w1)) (h3 : f ds = .ok d) : eCall f fs η w = .ok (d, w1) := by
  unfold eCall; rw [h1]; show Cw.liftM (f ds) w1 = _; rw [h3]; rfl
theorem eLc_ok {own : List Nat} {fe : FE W} (h1 : fi η w = .ok (ds, w1)) (h2 : lcL own tg ft fe ds η w1 = .ok (es, w2)) : eLc fi own tg ft fe η w = .ok (.list es, w2) := by
  unfold eLc; rw [h1]; show Cw.bindM (lcL own tg ft fe ds η w1) _ = _; rw [h2]; rfl
theorem sSeq_ok {r : Res (Out × W)} (h1 : ga η w = .ok (.nx η1, w1)) (h2 : gb η1 w1 = r) : sSeq ga gb η w = r := by
  unfold sSeq; rw [h1]; exact h2
theorem sSet_ok {i : Nat} (h1 : fa η w = .ok (a, w1)) : sSet i fa η w = .ok (.nx (η.set i (.fr a)), w1) := by
  unfold sSet; rw [h1]; rfl
theorem sSetN_ok {i : Nat} (h1 : fa η w = .ok (a, w1)) : sSetN i fa η w = .ok (.nx (η.set i (.ow a)), w1) := by
  unfold sSetN; rw [h1]; rfl
theorem sRet_ok (h1 : fa η w = .ok (a, w1)) : sRet fa η w = .ok (.rt a, w1) := by
  unfold sRet; rw [h1]; rfl
theorem sFor_ok {r : Res (Out × W)} (h1 : fi η w = .ok (ds, w1)) (h2 : forL tg ga ds η w1 = r) : sFor fi tg ga η w = r := by
  unfold sFor; rw [h1]; exact h2
theorem iSeq_list (h1 : fa η w = .ok (.list ds, w1)) (h2 : okLen ds.length = true) : iSeq fa η w = .ok (ds, w1) := by
  unfold iSeq; rw [h1]; show chk ds w1 = _; unfold chk; rw [h2]
theorem iSeq_tup (h1 : fa η w = .ok (.tuple ds, w1)) (h2 : okLen ds.length = true) : iSeq fa η w = .ok (ds, w1) := by
  unfold iSeq; rw [h1]; show chk ds w1 = _; unfold chk; rw [h2]
theorem iRg1_ok {n : Nat} (h1 : fa η w = .ok (iD n, w1)) (h2 : n ≤ 1000000) : iRg1 (aCons fa aNil) η w = .ok ((List.range n).map iD, w1) := by
  unfold iRg1; rw [aCons_ok h1 (show aNil η w1 = .ok ([], w1) from rfl)]
  show (match decide ((n : Int) ≤ 1000000) && decide (-1000000 ≤ (n : Int)) with | true => _ | false => _) = _
  rw [decide_eq_true (by omega), decide_eq_true (by omega), ← rgD_nat]
  rfl
theorem asg_sub {i : Nat} {k : Nat} {xs : List D} (h1 : fa η w = .ok (a, w1)) (h2 : η[i]? = some (.ow (.list xs))) (h3 : fb η w1 = .ok (iD k, w2)) (h4 : k < xs.length) : sAsg fa (tgSub i fb) η w = .ok (.nx (η.set i (.ow (.list (xs.set k a)))), w2) := by
  have e : tgSub i fb a η w1 = .ok (η.set i (.ow (.list (xs.set k a))), w2) := by
    unfold tgSub ownL
    rw [h2]
    show Cw.bindM (fb η w1) _ = _
    rw [h3]
    show (match ixN xs.length (k : Int) with | some j => _ | none => _) = _
    rw [ixN_nat h4]
  unfold sAsg; rw [h1]; show Cw.bindM (tgSub i fb a η w1) _ = _; rw [e]; rfl
theorem runF_rt {n N : Nat} {g : FS Unit} (hn : Nat.beq ds.length n = true) (h : g (ds.map Slot.fr ++ List.replicate (N - n) Slot.un) () = .ok (.rt d, ())) : runF n N g ds = .ok d := by
  unfold runF; rw [hn]; dsimp only; rw [h]
end
theorem modD_nat {a b : Nat} (h : 0 < b) : modD (iD a) (iD b) = .ok (iD (a % b)) := by
  unfold modD iD
  dsimp only
  rw [decide_eq_true (show (0 : Int) < b by omega)]
  rfl
theorem addD_nat (a b : Nat) : addD (iD a) (iD b) = .ok (iD (a + b)) := rfl
theorem okLen_of {n : Nat} (h : n ≤ 1000000) : okLen n = true := by unfold okLen; exact Nat.ble_eq_true_of_le h
theorem filterMap_all {α β : Type} (f : α → β) (l : List α) : l.filterMap (fun x => some (f x)) = l.map f := by
  induction l with
  | nil => rfl
  | cons a r ih => simp [ih]
end Cw

set_option maxHeartbeats 4000000
namespace Lw
open PySem PySem.Spec PyProof.Rows L2 Cw
def topS (i : Nat) : Stmt := PySem.Challenge.pw_circusweek_k85_whole_lamps_laid_evenly_a.main.body.getD i (.Pass ⟨0, 0, 0, 0⟩)
structure Bt (mg : Str → Option Value) : Prop where
  b_abs : mg "abs" = none
  b_all : mg "all" = none
  b_bool : mg "bool" = none
  b_enumerate : mg "enumerate" = none
  b_int : mg "int" = none
  b_isinstance : mg "isinstance" = none
  b_len : mg "len" = none
  b_max : mg "max" = none
  b_min : mg "min" = none
  b_range : mg "range" = none
  b_sorted : mg "sorted" = none
  b_sum : mg "sum" = none
  b_tuple : mg "tuple" = none
  b_zip : mg "zip" = none
  g_LIGHTS : ∃ t, mg "LIGHTS" = some (.int 10 t)
  g_MOST_COLOUR : ∃ t, mg "MOST_COLOUR" = some (.int 5 t)
  g_MOST_HORSES : ∃ t, mg "MOST_HORSES" = some (.int 10 t)
  g_MOST_LAMPS : ∃ t, mg "MOST_LAMPS" = some (.int 12 t)
  g_MOST_SIZE : ∃ t, mg "MOST_SIZE" = some (.int 60 t)
  g_MOST_SWITCHES : ∃ t, mg "MOST_SWITCHES" = some (.int 8 t)
  g_ODD : ∃ t, mg "ODD" = some (.str "odd" t)
  g_PRESS : ∃ t, mg "PRESS" = some (.str "press" t)
section
variable {P : Program} {w : World} {K : PySem.W.Frag} {mg : Str → Option Value} {base : Heap}
abbrev s_is_integer : Stmt := topS 1
def m_is_integer : List D → Res D := runF 1 1 (sRet (eAnd (e1 (isiD' "int") (eV 0)) (eNot (e1 (isiD' "bool") (eV 0)))))
abbrev n_is_integer : List Str := ["thing"]
theorem sc_is_integer : FnScope n_is_integer ["thing"] (defScope s_is_integer) := ⟨rfl, rfl, rfl, by decide +kernel, rfl, by decide +kernel, by decide +kernel⟩
theorem ok_is_integer {f : Addr} {fd : FuncData} (F : Fun K "is_integer" "is_integer" s_is_integer f fd) (B : Bt mg)  : FnOk P w K mg base CX0 1 f fd ["thing"] (spD m_is_integer) := by
  refine F.ok sc_is_integer (fun vs H Q E h => spD_len h) (fun cdv A outer s H vs Q E hr h => ?_)
  have hu : (A.deeper (envOfC "is_integer" (defScope s_is_integer) s.heap.objs.size f cdv)).units + 64 < cLine := hr.units
  have hu1 : (A.deeper (envOfC "is_integer" (defScope s_is_integer) s.heap.objs.size f cdv)).units + 1 < cLine := hu_of hr
  have hu2 : (A.deeper (envOfC "is_integer" (defScope s_is_integer) s.heap.objs.size f cdv)).units + 65 < cLine := by have := hr.un; omega
  exact body_end (Nm := n_is_integer) (n := 1) rfl (dss_one (ds_ret (de_and (k_isi (hn2 := by decide) (hd2 := by decide) (s1 := rfl) (s2 := rfl) (hpl := rfl) (K := K) rfl rfl B.b_isinstance (by decide +kernel) rfl B.b_int (by decide +kernel) (dq_of (de_v 0))) (de_one (de_not (k_isi (hn2 := by decide) (hd2 := by decide) (s1 := rfl) (s2 := rfl) (hpl := rfl) (K := K) rfl rfl B.b_isinstance (by decide +kernel) rfl B.b_bool (by decide +kernel) (dq_of (de_v 0)))))))) h
theorem cal_is_integer {h : Heap} (X : K.In h) (G : h.Ns mainGlobals mg) (A : FunAt K "is_integer" s_is_integer) (B : Bt mg)  : Callee P w K mg base "is_integer" 1 m_is_integer := by
  obtain ⟨f, fd, a, F⟩ := A
  exact ⟨f, fd, ["thing"], ok_is_integer F B , PySem.W.mg_of X G a, F.kp, F.binds fun _ _ _ _ _ _ us hl => match us, hl with | [_], _ => rfl⟩
abbrev s_is_tuple_of : Stmt := topS 3
def m_is_tuple_of : List D → Res D := runF 2 2 (sRet (eAnd (e1 (isiD' "tuple") (eV 0)) (e2 eqD (eCall lenD (aCons (eV 0) aNil)) (eV 1))))
abbrev n_is_tuple_of : List Str := ["thing", "size"]
theorem sc_is_tuple_of : FnScope n_is_tuple_of ["thing", "size"] (defScope s_is_tuple_of) := ⟨rfl, rfl, rfl, by decide +kernel, rfl, by decide +kernel, by decide +kernel⟩
theorem ok_is_tuple_of {f : Addr} {fd : FuncData} (F : Fun K "is_tuple_of" "is_tuple_of" s_is_tuple_of f fd) (B : Bt mg)  : FnOk P w K mg base CX0 1 f fd ["thing", "size"] (spD m_is_tuple_of) := by
  refine F.ok sc_is_tuple_of (fun vs H Q E h => spD_len h) (fun cdv A outer s H vs Q E hr h => ?_)
  have hu : (A.deeper (envOfC "is_tuple_of" (defScope s_is_tuple_of) s.heap.objs.size f cdv)).units + 64 < cLine := hr.units
  have hu1 : (A.deeper (envOfC "is_tuple_of" (defScope s_is_tuple_of) s.heap.objs.size f cdv)).units + 1 < cLine := hu_of hr
  have hu2 : (A.deeper (envOfC "is_tuple_of" (defScope s_is_tuple_of) s.heap.objs.size f cdv)).units + 65 < cLine := by have := hr.un; omega
  exact body_end (Nm := n_is_tuple_of) (n := 2) rfl (dss_one (ds_ret (de_and (k_isi (hn2 := by decide) (hd2 := by decide) (s1 := rfl) (s2 := rfl) (hpl := rfl) (K := K) rfl rfl B.b_isinstance (by decide +kernel) rfl B.b_tuple (by decide +kernel) (dq_of (de_v 0))) (de_one (de_cmp (k_eq (K := K) rfl hu) nx_eq (dq_of (de_callB (hn := by decide) (hdb := by decide) (he := rfl) (hpl := rfl) (k_len (K := K) rfl) nx_len rfl B.b_len (by decide +kernel) (db_cons (hs := rfl) (dq_of (de_v 0)) db_nil))) (dq_of (de_v 1)) (nomark _)))))) h
theorem cal_is_tuple_of {h : Heap} (X : K.In h) (G : h.Ns mainGlobals mg) (A : FunAt K "is_tuple_of" s_is_tuple_of) (B : Bt mg)  : Callee P w K mg base "is_tuple_of" 1 m_is_tuple_of := by
  obtain ⟨f, fd, a, F⟩ := A
  exact ⟨f, fd, ["thing", "size"], ok_is_tuple_of F B , PySem.W.mg_of X G a, F.kp, F.binds fun _ _ _ _ _ _ us hl => match us, hl with | [_, _], _ => rfl⟩
abbrev s_lots_of : Stmt := topS 16
def m_lots_of : List D → Res D := runF 2 8 (sSeq (sSet 2 (eLst (aCons (eTup aNil) aNil))) (sSeq (sFor (iRg1 (aCons (eV 1) aNil)) (tgN 3) (sSeq (sSetN 4 (eLst aNil)) (sSeq (sFor (iSeq (eV 2)) (tgN 5) (sSeq (sSet 6 (eIf (tst (e2 gtD (eCall lenD (aCons (eV 5) aNil)) (eC (.int 0)))) (e2 addD (e2 ixD (eV 5) (e1 negD (eC (.int 1)))) (eC (.int 1))) (eC (.int 0)))) (sExt 4 (eLc (iRg2 (aCons (eV 6) (aCons (eV 0) aNil))) [7] (tgN 7) tYesF (e2 addD (eV 5) (eTup (aCons (eV 7) aNil))))))) (sFz 4 (sSet 2 (eV 4)))))) (sRet (eV 2))))
abbrev n_lots_of : List Str := ["many", "size", "found", "turn", "longer", "lot", "begin", "one"]
theorem sc_lots_of : FnScope n_lots_of ["many", "size"] (defScope s_lots_of) := ⟨rfl, rfl, rfl, by decide +kernel, rfl, by decide +kernel, by decide +kernel⟩
theorem ok_lots_of {f : Addr} {fd : FuncData} (F : Fun K "lots_of" "lots_of" s_lots_of f fd) (B : Bt mg)  : FnOk P w K mg base CX0 1 f fd ["many", "size"] (spD m_lots_of) := by
  refine F.ok sc_lots_of (fun vs H Q E h => spD_len h) (fun cdv A outer s H vs Q E hr h => ?_)
  have hu : (A.deeper (envOfC "lots_of" (defScope s_lots_of) s.heap.objs.size f cdv)).units + 64 < cLine := hr.units
  have hu1 : (A.deeper (envOfC "lots_of" (defScope s_lots_of) s.heap.objs.size f cdv)).units + 1 < cLine := hu_of hr
  have hu2 : (A.deeper (envOfC "lots_of" (defScope s_lots_of) s.heap.objs.size f cdv)).units + 65 < cLine := by have := hr.un; omega
  exact body_end (Nm := n_lots_of) (n := 2) rfl (dss_cons (ds_set (hs := rfl) (hf := .inl rfl) (i := 2) sc_lots_of.nd rfl (by first | exact .inl rfl | exact .inr rfl) (de_of (dn_lst (da_cons (hs := rfl) (de_tup da_nil) da_nil)))) (dss_cons (ds_for (hs := fun _ => rfl) PassesOwn.never rfl (di_range1 (hs := rfl) rfl B.b_range (db_cons (hs := rfl) (dq_of (de_v 1)) db_nil)) (dg_name (i := 3) sc_lots_of.nd rfl (by first | exact .inl rfl | exact .inr rfl)) (dss_cons (ds_setN (hs := rfl) (hf := .inl rfl) (i := 4) sc_lots_of.nd rfl (by first | exact .inl rfl | exact .inr rfl) (dn_lst da_nil)) (dss_cons (ds_for (hs := fun _ => rfl) PassesOwn.never rfl (k_seq (K := K) rfl (de_v 2)) (dg_name (i := 5) sc_lots_of.nd rfl (by first | exact .inl rfl | exact .inr rfl)) (dss_cons (ds_set (hs := rfl) (hf := .inl rfl) (i := 6) sc_lots_of.nd rfl (by first | exact .inl rfl | exact .inr rfl) (de_if (dt_cmp o_gt nx_c2 (dq_of (de_callB (hn := by decide) (hdb := by decide) (he := rfl) (hpl := rfl) (k_len (K := K) rfl) nx_len rfl B.b_len (by decide +kernel) (db_cons (hs := rfl) (dq_of (de_v 5)) db_nil))) (dq_of de_int) (nomark _)) (de_op (k_add (K := K) rfl) nx_add (dq_of (k_ix (hs := fun _ _ => rfl) (K := K) rfl (dq_of (de_v 5)) (dq_of (de_neg (dq_of de_int))))) (dq_of de_int)) de_int)) (dss_one (ds_ext (hN := rfl) (hv := by first | exact Or.inl rfl | exact Or.inr (Or.inl rfl)) (hb := rfl) (hf := rfl) (hl := rfl) (hs := rfl) (hp := rfl) (hsw := rfl) (hd := by decide) (hcd := by decide) 4 (he := (de_of (dn_lc (hs := fun _ => rfl) rfl sc_lots_of.nd (g := (gName 7)) (dj_of (di_range2 (hs := rfl) (hs2 := rfl) rfl B.b_range (db_cons (hs := rfl) (dq_of (de_v 6)) (db_cons (hs := rfl) (dq_of (de_v 0)) db_nil)))) (blkOk_by (own := [("one", 7)]) (N := n_lots_of) (sc := defScope s_lots_of) (by decide +kernel)) (fun _ _ _ _ _ => (dgn_name (i := 7) sc_lots_of.nd rfl (by first | exact .inl rfl | exact .inr rfl))) (ng_n 7) (by decide) (fun _ _ _ _ _ => dts_nil) (fun _ _ _ _ _ => (de_op (k_add (K := K) rfl) nx_add (dq_of (de_v 5)) (dq_of (de_tup (da_cons (hs := rfl) (de_v 7) da_nil)))))))))))) (dss_one (ds_fz 4 (ds_set (hs := rfl) (hf := .inl rfl) (i := 2) sc_lots_of.nd rfl (by first | exact .inl rfl | exact .inr rfl) (de_v 4))))))) (dss_one (ds_ret (de_v 2))))) h
theorem cal_lots_of {h : Heap} (X : K.In h) (G : h.Ns mainGlobals mg) (A : FunAt K "lots_of" s_lots_of) (B : Bt mg)  : Callee P w K mg base "lots_of" 1 m_lots_of := by
  obtain ⟨f, fd, a, F⟩ := A
  exact ⟨f, fd, ["many", "size"], ok_lots_of F B , PySem.W.mg_of X G a, F.kp, F.binds fun _ _ _ _ _ _ us hl => match us, hl with | [_, _], _ => rfl⟩
abbrev s_places_of : Stmt := topS 24
def m_places_of : List D → Res D := runF 2 3 (sRet (eLc (iRg1 (aCons (e2 ixD (eV 1) (eC (.int 1))) aNil)) [2] (tgN 2) tYesF (e2 modD (e2 addD (e2 ixD (eV 1) (eC (.int 0))) (eV 2)) (eV 0))))
abbrev n_places_of : List Str := ["size", "lamp", "step"]
theorem sc_places_of : FnScope n_places_of ["size", "lamp"] (defScope s_places_of) := ⟨rfl, rfl, rfl, by decide +kernel, rfl, by decide +kernel, by decide +kernel⟩
theorem ok_places_of {f : Addr} {fd : FuncData} (F : Fun K "places_of" "places_of" s_places_of f fd) (B : Bt mg)  : FnOk P w K mg base CX0 1 f fd ["size", "lamp"] (spD m_places_of) := by
  refine F.ok sc_places_of (fun vs H Q E h => spD_len h) (fun cdv A outer s H vs Q E hr h => ?_)
  have hu : (A.deeper (envOfC "places_of" (defScope s_places_of) s.heap.objs.size f cdv)).units + 64 < cLine := hr.units
  have hu1 : (A.deeper (envOfC "places_of" (defScope s_places_of) s.heap.objs.size f cdv)).units + 1 < cLine := hu_of hr
  have hu2 : (A.deeper (envOfC "places_of" (defScope s_places_of) s.heap.objs.size f cdv)).units + 65 < cLine := by have := hr.un; omega
  exact body_end (Nm := n_places_of) (n := 2) rfl (dss_one (ds_ret (de_of (dn_lc (hs := fun _ => rfl) rfl sc_places_of.nd (g := (gName 2)) (dj_of (di_range1 (hs := rfl) rfl B.b_range (db_cons (hs := rfl) (dq_of (k_ix (hs := fun _ _ => rfl) (K := K) rfl (dq_of (de_v 1)) (dq_of de_int))) db_nil))) (blkOk_by (own := [("step", 2)]) (N := n_places_of) (sc := defScope s_places_of) (by decide +kernel)) (fun _ _ _ _ _ => (dgn_name (i := 2) sc_places_of.nd rfl (by first | exact .inl rfl | exact .inr rfl))) (ng_n 2) (by decide) (fun _ _ _ _ _ => dts_nil) (fun _ _ _ _ _ => (de_op o_mod nx_mod (dq_of (de_op (k_add (K := K) rfl) nx_add (dq_of (k_ix (hs := fun _ _ => rfl) (K := K) rfl (dq_of (de_v 1)) (dq_of de_int))) (dq_of (de_v 2)))) (dq_of (de_v 0)))))))) h
theorem cal_places_of {h : Heap} (X : K.In h) (G : h.Ns mainGlobals mg) (A : FunAt K "places_of" s_places_of) (B : Bt mg)  : Callee P w K mg base "places_of" 1 m_places_of := by
  obtain ⟨f, fd, a, F⟩ := A
  exact ⟨f, fd, ["size", "lamp"], ok_places_of F B , PySem.W.mg_of X G a, F.kp, F.binds fun _ _ _ _ _ _ us hl => match us, hl with | [_, _], _ => rfl⟩
abbrev s_stretch_from : Stmt := topS 32
def m_stretch_from : List D → Res D := runF 3 4 (sSeq (sSet 3 (eC (.int 0))) (sSeq (sWhile 1000 (tAndF (tst (e2 ltD (eV 3) (eV 0))) (tst (e2 inD (e2 modD (e2 addD (eV 2) (eV 3)) (eV 0)) (eV 1)))) (sSet 3 (e2 addD (eV 3) (eC (.int 1))))) (sRet (eV 3))))
abbrev n_stretch_from : List Str := ["size", "some", "begin", "many"]
theorem sc_stretch_from : FnScope n_stretch_from ["size", "some", "begin"] (defScope s_stretch_from) := ⟨rfl, rfl, rfl, by decide +kernel, rfl, by decide +kernel, by decide +kernel⟩
theorem ok_stretch_from {f : Addr} {fd : FuncData} (F : Fun K "stretch_from" "stretch_from" s_stretch_from f fd) (B : Bt mg)  : FnOk P w K mg base CX0 1 f fd ["size", "some", "begin"] (spD m_stretch_from) := by
  refine F.ok sc_stretch_from (fun vs H Q E h => spD_len h) (fun cdv A outer s H vs Q E hr h => ?_)
  have hu : (A.deeper (envOfC "stretch_from" (defScope s_stretch_from) s.heap.objs.size f cdv)).units + 64 < cLine := hr.units
  have hu1 : (A.deeper (envOfC "stretch_from" (defScope s_stretch_from) s.heap.objs.size f cdv)).units + 1 < cLine := hu_of hr
  have hu2 : (A.deeper (envOfC "stretch_from" (defScope s_stretch_from) s.heap.objs.size f cdv)).units + 65 < cLine := by have := hr.un; omega
  exact body_end (Nm := n_stretch_from) (n := 3) rfl (dss_cons (ds_set (hs := rfl) (hf := .inl rfl) (i := 3) sc_stretch_from.nd rfl (by first | exact .inl rfl | exact .inr rfl) de_int) (dss_cons (ds_while 1000 PassesOwn.never (dt_of (dw_and (dt_cmp o_lt nx_c2 (dq_of (de_v 3)) (dq_of (de_v 0)) (nomark _)) (dw_and1 (dt_cmp (k_in (K := K) rfl hu) nx_in (dq_of (de_op o_mod nx_mod (dq_of (de_op (k_add (K := K) rfl) nx_add (dq_of (de_v 2)) (dq_of (de_v 3)))) (dq_of (de_v 0)))) (dq_of (de_v 1)) (by with_unfolding_all rfl))))) (dss_one (ds_set (hs := rfl) (hf := .inl rfl) (i := 3) sc_stretch_from.nd rfl (by first | exact .inl rfl | exact .inr rfl) (de_op (k_add (K := K) rfl) nx_add (dq_of (de_v 3)) (dq_of de_int))))) (dss_one (ds_ret (de_v 3))))) h
theorem cal_stretch_from {h : Heap} (X : K.In h) (G : h.Ns mainGlobals mg) (A : FunAt K "stretch_from" s_stretch_from) (B : Bt mg)  : Callee P w K mg base "stretch_from" 1 m_stretch_from := by
  obtain ⟨f, fd, a, F⟩ := A
  exact ⟨f, fd, ["size", "some", "begin"], ok_stretch_from F B , PySem.W.mg_of X G a, F.kp, F.binds fun _ _ _ _ _ _ us hl => match us, hl with | [_, _, _], _ => rfl⟩
abbrev s_begins_of : Stmt := topS 42
def m_begins_of : List D → Res D := runF 1 2 (sRet (eLc (iRg1 (aCons (eCall lenD (aCons (eV 0) aNil)) aNil)) [1] (tgN 1) (tst (e2 neD (e2 ixD (eV 0) (eV 1)) (e2 ixD (eV 0) (e2 subD (eV 1) (eC (.int 1)))))) (eV 1)))
abbrev n_begins_of : List Str := ["horses", "place"]
theorem sc_begins_of : FnScope n_begins_of ["horses"] (defScope s_begins_of) := ⟨rfl, rfl, rfl, by decide +kernel, rfl, by decide +kernel, by decide +kernel⟩
theorem ok_begins_of {f : Addr} {fd : FuncData} (F : Fun K "begins_of" "begins_of" s_begins_of f fd) (B : Bt mg)  : FnOk P w K mg base CX0 1 f fd ["horses"] (spD m_begins_of) := by
  refine F.ok sc_begins_of (fun vs H Q E h => spD_len h) (fun cdv A outer s H vs Q E hr h => ?_)
  have hu : (A.deeper (envOfC "begins_of" (defScope s_begins_of) s.heap.objs.size f cdv)).units + 64 < cLine := hr.units
  have hu1 : (A.deeper (envOfC "begins_of" (defScope s_begins_of) s.heap.objs.size f cdv)).units + 1 < cLine := hu_of hr
  have hu2 : (A.deeper (envOfC "begins_of" (defScope s_begins_of) s.heap.objs.size f cdv)).units + 65 < cLine := by have := hr.un; omega
  exact body_end (Nm := n_begins_of) (n := 1) rfl (dss_one (ds_ret (de_of (dn_lc (hs := fun _ => rfl) rfl sc_begins_of.nd (g := (gName 1)) (dj_of (di_range1 (hs := rfl) rfl B.b_range (db_cons (hs := rfl) (dq_of (de_callB (hn := by decide) (hdb := by decide) (he := rfl) (hpl := rfl) (k_len (K := K) rfl) nx_len rfl B.b_len (by decide +kernel) (db_cons (hs := rfl) (dq_of (de_v 0)) db_nil))) db_nil))) (blkOk_by (own := [("place", 1)]) (N := n_begins_of) (sc := defScope s_begins_of) (by decide +kernel)) (fun _ _ _ _ _ => (dgn_name (i := 1) sc_begins_of.nd rfl (by first | exact .inl rfl | exact .inr rfl))) (ng_n 1) (by decide) (fun _ _ _ _ _ => dts_one (dt_cmp (k_ne (K := K) rfl hu) nx_ne (dq_of (k_ix (hs := fun _ _ => rfl) (K := K) rfl (dq_of (de_v 0)) (dq_of (de_v 1)))) (dq_of (k_ix (hs := fun _ _ => rfl) (K := K) rfl (dq_of (de_v 0)) (dq_of (de_op o_sub nx_i2 (dq_of (de_v 1)) (dq_of de_int))))) (nomark _))) (fun _ _ _ _ _ => (de_v 1)))))) h
theorem cal_begins_of {h : Heap} (X : K.In h) (G : h.Ns mainGlobals mg) (A : FunAt K "begins_of" s_begins_of) (B : Bt mg)  : Callee P w K mg base "begins_of" 1 m_begins_of := by
  obtain ⟨f, fd, a, F⟩ := A
  exact ⟨f, fd, ["horses"], ok_begins_of F B , PySem.W.mg_of X G a, F.kp, F.binds fun _ _ _ _ _ _ us hl => match us, hl with | [_], _ => rfl⟩
abbrev s_ways_round : Stmt := topS 43
def m_ways_round : List D → Res D := runF 2 5 (sSeq (sSet 2 (e2 addD (eSlice (eV 0) (oSome (eC (.int 1))) oNone) (eLc (iSeq (eSlice (eV 0) oNone (oSome (eC (.int 1))))) [3] (tgN 3) tYesF (e2 addD (eV 3) (eV 1))))) (sRet (eLc (iZipF (aCons (eV 0) (aCons (eV 2) aNil))) [3, 4] (tgT (tgCons (tgN 3) (tgCons (tgN 4) tgNil))) tYesF (e2 subD (eV 4) (eV 3)))))
abbrev n_ways_round : List Str := ["places", "size", "after", "place", "later"]
theorem sc_ways_round : FnScope n_ways_round ["places", "size"] (defScope s_ways_round) := ⟨rfl, rfl, rfl, by decide +kernel, rfl, by decide +kernel, by decide +kernel⟩
theorem ok_ways_round {f : Addr} {fd : FuncData} (F : Fun K "ways_round" "ways_round" s_ways_round f fd) (B : Bt mg)  : FnOk P w K mg base CX0 1 f fd ["places", "size"] (spD m_ways_round) := by
  refine F.ok sc_ways_round (fun vs H Q E h => spD_len h) (fun cdv A outer s H vs Q E hr h => ?_)
  have hu : (A.deeper (envOfC "ways_round" (defScope s_ways_round) s.heap.objs.size f cdv)).units + 64 < cLine := hr.units
  have hu1 : (A.deeper (envOfC "ways_round" (defScope s_ways_round) s.heap.objs.size f cdv)).units + 1 < cLine := hu_of hr
  have hu2 : (A.deeper (envOfC "ways_round" (defScope s_ways_round) s.heap.objs.size f cdv)).units + 65 < cLine := by have := hr.un; omega
  exact body_end (Nm := n_ways_round) (n := 2) rfl (dss_cons (ds_set (hs := rfl) (hf := .inl rfl) (i := 2) sc_ways_round.nd rfl (by first | exact .inl rfl | exact .inr rfl) (de_op (k_add (K := K) rfl) nx_add (dq_of (k_slice (K := K) rfl (dq_of (de_v 0)) (do_some (dq_of de_int)) do_none)) (dq_of (de_of (dn_lc (hs := fun _ => rfl) rfl sc_ways_round.nd (g := (gName 3)) (dj_of (k_seq (K := K) rfl (k_slice (K := K) rfl (dq_of (de_v 0)) do_none (do_some (dq_of de_int))))) (blkOk_by (own := [("place", 3)]) (N := n_ways_round) (sc := defScope s_ways_round) (by decide +kernel)) (fun _ _ _ _ _ => (dgn_name (i := 3) sc_ways_round.nd rfl (by first | exact .inl rfl | exact .inr rfl))) (ng_n 3) (by decide) (fun _ _ _ _ _ => dts_nil) (fun _ _ _ _ _ => (de_op (k_add (K := K) rfl) nx_add (dq_of (de_v 3)) (dq_of (de_v 1))))))))) (dss_one (ds_ret (de_of (dn_lc (hs := fun _ => rfl) rfl sc_ways_round.nd (g := (gTup K 2 (gCons (gName 3) (gCons (gName 4) gNil)))) (dj_of (k_zip (hs := rfl) (hpl := rfl) (K := K) rfl rfl B.b_zip (da_cons (hs := rfl) (de_v 0) (da_cons (hs := rfl) (de_v 2) da_nil)))) (blkOk_by (own := [("place", 3), ("later", 4)]) (N := n_ways_round) (sc := defScope s_ways_round) (by decide +kernel)) (fun _ _ _ _ _ => (gntK (K := K) rfl rfl (by rfl) (by rfl) (tl_cons (tl_cons tl_nil)) (gns (by rfl) (dgn_name (i := 3) sc_ways_round.nd rfl (by first | exact .inl rfl | exact .inr rfl)) (gns (by rfl) (dgn_name (i := 4) sc_ways_round.nd rfl (by first | exact .inl rfl | exact .inr rfl)) dgns_nil)))) (ng_t (ng_cons (ng_n 3) (ng_cons (ng_n 4) ng_nil))) (by decide) (fun _ _ _ _ _ => dts_nil) (fun _ _ _ _ _ => (de_op o_sub nx_i2 (dq_of (de_v 4)) (dq_of (de_v 3))))))))) h
theorem cal_ways_round {h : Heap} (X : K.In h) (G : h.Ns mainGlobals mg) (A : FunAt K "ways_round" s_ways_round) (B : Bt mg)  : Callee P w K mg base "ways_round" 1 m_ways_round := by
  obtain ⟨f, fd, a, F⟩ := A
  exact ⟨f, fd, ["places", "size"], ok_ways_round F B , PySem.W.mg_of X G a, F.kp, F.binds fun _ _ _ _ _ _ us hl => match us, hl with | [_, _], _ => rfl⟩
abbrev s_evenly : Stmt := topS 46
def m_evenly : List D → Res D := runF 2 4 (sSeq (sSetN 2 (eLst aNil)) (sSeq (sFor (iRg1 (aCons (eV 0) aNil)) (tgN 3) (sApp 2 (eCall intD (aCons (e2 neD (e2 fdivD (e2 mulD (eV 3) (eV 1)) (eV 0)) (e2 fdivD (e2 mulD (e2 addD (eV 3) (eC (.int 1))) (eV 1)) (eV 0))) aNil)))) (sRet (eCall tupleD (aCons (eVq 2) aNil)))))
abbrev n_evenly : List Str := ["size", "many", "found", "place"]
theorem sc_evenly : FnScope n_evenly ["size", "many"] (defScope s_evenly) := ⟨rfl, rfl, rfl, by decide +kernel, rfl, by decide +kernel, by decide +kernel⟩
theorem ok_evenly {f : Addr} {fd : FuncData} (F : Fun K "evenly" "evenly" s_evenly f fd) (B : Bt mg)  : FnOk P w K mg base CX0 1 f fd ["size", "many"] (spD m_evenly) := by
  refine F.ok sc_evenly (fun vs H Q E h => spD_len h) (fun cdv A outer s H vs Q E hr h => ?_)
  have hu : (A.deeper (envOfC "evenly" (defScope s_evenly) s.heap.objs.size f cdv)).units + 64 < cLine := hr.units
  have hu1 : (A.deeper (envOfC "evenly" (defScope s_evenly) s.heap.objs.size f cdv)).units + 1 < cLine := hu_of hr
  have hu2 : (A.deeper (envOfC "evenly" (defScope s_evenly) s.heap.objs.size f cdv)).units + 65 < cLine := by have := hr.un; omega
  exact body_end (Nm := n_evenly) (n := 2) rfl (dss_cons (ds_setN (hs := rfl) (hf := .inl rfl) (i := 2) sc_evenly.nd rfl (by first | exact .inl rfl | exact .inr rfl) (dn_lst da_nil)) (dss_cons (ds_for (hs := fun _ => rfl) PassesOwn.never rfl (di_range1 (hs := rfl) rfl B.b_range (db_cons (hs := rfl) (dq_of (de_v 0)) db_nil)) (dg_name (i := 3) sc_evenly.nd rfl (by first | exact .inl rfl | exact .inr rfl)) (dss_one (ds_app (hN := rfl) (hv := by first | exact Or.inl rfl | exact Or.inr (Or.inl rfl)) (hb := rfl) (hf := rfl) (hl := rfl) (hs := rfl) (hp := rfl) (hsw := rfl) (hd := by decide) (hcd := by decide) 2 (he := (de_callTy (hn := by decide) (hdb := by decide) (he := rfl) (hpl := rfl) c_int nx_int rfl B.b_int (by decide +kernel) (db_cons (hs := rfl) (dq_of (de_cmp (k_ne (K := K) rfl hu) nx_ne (dq_of (de_op o_fdiv nx_fdiv (dq_of (de_op (k_mul (K := K) rfl) nx_mul (dq_of (de_v 3)) (dq_of (de_v 1)))) (dq_of (de_v 0)))) (dq_of (de_op o_fdiv nx_fdiv (dq_of (de_op (k_mul (K := K) rfl) nx_mul (dq_of (de_op (k_add (K := K) rfl) nx_add (dq_of (de_v 3)) (dq_of de_int))) (dq_of (de_v 1)))) (dq_of (de_v 0)))) (nomark _))) db_nil)))))) (dss_one (ds_ret (de_callTy (hn := by decide) (hdb := by decide) (he := rfl) (hpl := rfl) (k_tuple (K := K) rfl) nx_tuple rfl B.b_tuple (by decide +kernel) (db_cons (hs := rfl) (dq_v 2) db_nil)))))) h
theorem cal_evenly {h : Heap} (X : K.In h) (G : h.Ns mainGlobals mg) (A : FunAt K "evenly" s_evenly) (B : Bt mg)  : Callee P w K mg base "evenly" 1 m_evenly := by
  obtain ⟨f, fd, a, F⟩ := A
  exact ⟨f, fd, ["size", "many"], ok_evenly F B , PySem.W.mg_of X G a, F.kp, F.binds fun _ _ _ _ _ _ us hl => match us, hl with | [_, _], _ => rfl⟩
abbrev s_raw_shine : Stmt := topS 54
def m_raw_shine : List D → Res D := runF 2 6 (sSeq (sSetN 2 (e2 repD (eLst (aCons (eC (.bool false)) aNil)) (eC (.int 10)))) (sSeq (sFor (iSeq (eV 1)) (tgN 3) (sFor (iSeq (e2 ixD (eV 0) (eV 3))) (tgN 4) (sAsg (eNot (e2 ixD (eVq 2) (eV 4))) (tgSub 2 (eV 4))))) (sFz 2 (sRet (eCall tupleD (aCons (eLc (iEnumA (eV 2)) [4, 5] (tgT (tgCons (tgN 4) (tgCons (tgN 5) tgNil))) (tst (eV 5)) (eV 4)) aNil))))))
abbrev n_raw_shine : List Str := ["switches", "pressed", "on", "at", "light", "is_on"]
theorem sc_raw_shine : FnScope n_raw_shine ["switches", "pressed"] (defScope s_raw_shine) := ⟨rfl, rfl, rfl, by decide +kernel, rfl, by decide +kernel, by decide +kernel⟩
theorem ok_raw_shine {f : Addr} {fd : FuncData} (F : Fun K "raw_shine" "raw_shine" s_raw_shine f fd) (B : Bt mg)  : FnOk P w K mg base CX0 1 f fd ["switches", "pressed"] (spD m_raw_shine) := by
  refine F.ok sc_raw_shine (fun vs H Q E h => spD_len h) (fun cdv A outer s H vs Q E hr h => ?_)
  have hu : (A.deeper (envOfC "raw_shine" (defScope s_raw_shine) s.heap.objs.size f cdv)).units + 64 < cLine := hr.units
  have hu1 : (A.deeper (envOfC "raw_shine" (defScope s_raw_shine) s.heap.objs.size f cdv)).units + 1 < cLine := hu_of hr
  have hu2 : (A.deeper (envOfC "raw_shine" (defScope s_raw_shine) s.heap.objs.size f cdv)).units + 65 < cLine := by have := hr.un; omega
  exact body_end (Nm := n_raw_shine) (n := 2) rfl (dss_cons (ds_setN (hs := rfl) (hf := .inl rfl) (i := 2) sc_raw_shine.nd rfl (by first | exact .inl rfl | exact .inr rfl) (dn_rep (dq_of (de_of (dn_lst (da_cons (hs := rfl) de_bl da_nil)))) (dq_of (de_globI rfl B.g_LIGHTS)))) (dss_cons (ds_for (hs := fun _ => rfl) PassesOwn.never rfl (k_seq (K := K) rfl (de_v 1)) (dg_name (i := 3) sc_raw_shine.nd rfl (by first | exact .inl rfl | exact .inr rfl)) (dss_one (ds_for (hs := fun _ => rfl) PassesOwn.never rfl (k_seq (K := K) rfl (k_ix (hs := fun _ _ => rfl) (K := K) rfl (dq_of (de_v 0)) (dq_of (de_v 3)))) (dg_name (i := 4) sc_raw_shine.nd rfl (by first | exact .inl rfl | exact .inr rfl)) (dss_one (ds_asg (hs := rfl) (hw := rfl) (h1 := rfl) (de_not (k_ix (hs := fun _ _ => rfl) (K := K) rfl (dq_v 2) (dq_of (de_v 4)))) (dg_sub (hN := rfl) (hv := by first | exact Or.inl rfl | exact Or.inr (Or.inl rfl)) (hd := by decide) (hcd := by decide) (ha := fun _ => rfl) 2 (hk := (dq_of (de_v 4))))))))) (dss_one (ds_fz 2 (ds_ret (de_callTy (hn := by decide) (hdb := by decide) (he := rfl) (hpl := rfl) (k_tuple (K := K) rfl) nx_tuple rfl B.b_tuple (by decide +kernel) (db_cons (hs := rfl) (dq_of (de_of (dn_lc (hs := fun _ => rfl) rfl sc_raw_shine.nd (g := (gTup K 2 (gCons (gName 4) (gCons (gName 5) gNil)))) (dj_of (k_enumA (hs := rfl) (hs2 := rfl) (K := K) rfl rfl B.b_enumerate (de_v 2))) (blkOk_by (own := [("light", 4), ("is_on", 5)]) (N := n_raw_shine) (sc := defScope s_raw_shine) (by decide +kernel)) (fun _ _ _ _ _ => (gntK (K := K) rfl rfl (by rfl) (by rfl) (tl_cons (tl_cons tl_nil)) (gns (by rfl) (dgn_name (i := 4) sc_raw_shine.nd rfl (by first | exact .inl rfl | exact .inr rfl)) (gns (by rfl) (dgn_name (i := 5) sc_raw_shine.nd rfl (by first | exact .inl rfl | exact .inr rfl)) dgns_nil)))) (ng_t (ng_cons (ng_n 4) (ng_cons (ng_n 5) ng_nil))) (by decide) (fun _ _ _ _ _ => dts_one (dt_val (he := fun _ => rfl) (de_v 5))) (fun _ _ _ _ _ => (de_v 4))))) db_nil))))))) h
theorem cal_raw_shine {h : Heap} (X : K.In h) (G : h.Ns mainGlobals mg) (A : FunAt K "raw_shine" s_raw_shine) (B : Bt mg)  : Callee P w K mg base "raw_shine" 1 m_raw_shine := by
  obtain ⟨f, fd, a, F⟩ := A
  exact ⟨f, fd, ["switches", "pressed"], ok_raw_shine F B , PySem.W.mg_of X G a, F.kp, F.binds fun _ _ _ _ _ _ us hl => match us, hl with | [_, _], _ => rfl⟩
abbrev s_shared_many : Stmt := topS 56
def m_shared_many : List D → Res D := runF 2 3 (sRet (eCall lenD (aCons (eLc (iSeq (eV 0)) [2] (tgN 2) (tst (e2 inD (eV 2) (eV 1))) (eV 2)) aNil)))
abbrev n_shared_many : List Str := ["one", "other", "light"]
theorem sc_shared_many : FnScope n_shared_many ["one", "other"] (defScope s_shared_many) := ⟨rfl, rfl, rfl, by decide +kernel, rfl, by decide +kernel, by decide +kernel⟩
theorem ok_shared_many {f : Addr} {fd : FuncData} (F : Fun K "shared_many" "shared_many" s_shared_many f fd) (B : Bt mg)  : FnOk P w K mg base CX0 1 f fd ["one", "other"] (spD m_shared_many) := by
  refine F.ok sc_shared_many (fun vs H Q E h => spD_len h) (fun cdv A outer s H vs Q E hr h => ?_)
  have hu : (A.deeper (envOfC "shared_many" (defScope s_shared_many) s.heap.objs.size f cdv)).units + 64 < cLine := hr.units
  have hu1 : (A.deeper (envOfC "shared_many" (defScope s_shared_many) s.heap.objs.size f cdv)).units + 1 < cLine := hu_of hr
  have hu2 : (A.deeper (envOfC "shared_many" (defScope s_shared_many) s.heap.objs.size f cdv)).units + 65 < cLine := by have := hr.un; omega
  exact body_end (Nm := n_shared_many) (n := 2) rfl (dss_one (ds_ret (de_callB (hn := by decide) (hdb := by decide) (he := rfl) (hpl := rfl) (k_len (K := K) rfl) nx_len rfl B.b_len (by decide +kernel) (db_cons (hs := rfl) (dq_of (de_of (dn_lc (hs := fun _ => rfl) rfl sc_shared_many.nd (g := (gName 2)) (dj_of (k_seq (K := K) rfl (de_v 0))) (blkOk_by (own := [("light", 2)]) (N := n_shared_many) (sc := defScope s_shared_many) (by decide +kernel)) (fun _ _ _ _ _ => (dgn_name (i := 2) sc_shared_many.nd rfl (by first | exact .inl rfl | exact .inr rfl))) (ng_n 2) (by decide) (fun _ _ _ _ _ => dts_one (dt_cmp (k_in (K := K) rfl hu) nx_in (dq_of (de_v 2)) (dq_of (de_v 1)) (by with_unfolding_all rfl))) (fun _ _ _ _ _ => (de_v 2))))) db_nil)))) h
theorem cal_shared_many {h : Heap} (X : K.In h) (G : h.Ns mainGlobals mg) (A : FunAt K "shared_many" s_shared_many) (B : Bt mg)  : Callee P w K mg base "shared_many" 1 m_shared_many := by
  obtain ⟨f, fd, a, F⟩ := A
  exact ⟨f, fd, ["one", "other"], ok_shared_many F B , PySem.W.mg_of X G a, F.kp, F.binds fun _ _ _ _ _ _ us hl => match us, hl with | [_, _], _ => rfl⟩
/-! ### the bag's defs, by hand -/
abbrev s__law_pick : Stmt := topS 66
theorem sc__law_pick : FnScope ["bag", "many", "number"] ["bag", "many"] (defScope s__law_pick) := ⟨rfl, rfl, rfl, by decide +kernel, rfl, by decide +kernel, by decide +kernel⟩
theorem ok__law_pick {f : Addr} {fd : FuncData} (F : Fun K "_law_pick" "_law_pick" s__law_pick f fd) (B : Bt mg) : FnOk P w K mg base CX0 1 f fd ["bag", "many"] (spS bagR m_pick) := by
  refine F.ok sc__law_pick (fun vs H Q E h => ?_) (fun cdv A outer s H vs Q E hr h => ?_)
  · obtain ⟨i, us, F, ds, w, rfl, k, hd, p⟩ := h
    unfold m_pick at p
    split at p
    · cases hd with
      | cons _ t => cases t; rfl
    · exact p.elim
  · obtain ⟨⟨a, g⟩, us, F, ds, b, rfl, k, hd, p⟩ := h
    unfold m_pick at p
    split at p
    · split at p
      · rename_i many _ hm
        simp only [Bool.and_eq_true, decide_eq_true_eq] at hm
        obtain ⟨hm0, hm1⟩ := hm
        cases hd with
        | cons hv ht =>
          cases ht
          cases hv
          obtain ⟨ha, hg, hl⟩ := k.res
          have fin : ∀ (b' : Bag) (H' : Hp) (r : Int), pickB many b = (r, b') → BagAt a g b' H' → (∀ q o, q ≠ a → q ≠ g → H q = some o → H' q = some o) → Q (.int r) H' := fun b' H' r e hb keep => by
            obtain ⟨e1, k1⟩ := bag_step k hb keep
            rw [e] at p
            exact p F H' e1 k1 (.int r) (.int r)
          have nag : g ≠ a := ne_of hg ha (by
            cases b.gs with
            | nil => intro z; cases z
            | cons x r => intro z; simp at z)
          refine ⟨_, pss_cons (ps_if (pt_cmpR op_eq (pe_ix ix_list (pv 0) pe_int (fun _ _ => rfl)) pe_int (nomark _)) (pss_one (ps_ret pe_int)) pss_nil)
            (pss_cons (ps_if (pt_cmpR op_gt (pe_callB call_len_seq (by rfl) B.b_len PySem.boot_len (pa_cons (pe_ix ix_list (pv 0) pe_int (fun _ _ => rfl)) pa_nil)) pe_int (nomark _))
              (pss_cons (ps_set (i := 2) sc__law_pick.nd rfl (.inl rfl) (pe_ix ix_list (pe_ix ix_list (pv 0) pe_int (fun _ _ => rfl)) pe_int (fun _ _ => rfl)))
              (pss_cons (ps_asg (pe_op op_fdiv (pv 2) (pv 1)) (pg_sub (pe_ix ix_list (pv 0) pe_int (fun _ _ => rfl)) pe_int set_list))
              (pss_cons (ps_if (pt_cmpR op_lt (pv 2) (pv 1) (nomark _)) (pss_one (ps_expr (pe_bm PySem.F.plainAttrs_list PySem.F.slot_list_pop PySem.F.type_list_pop mt_popAt (pe_ix ix_list (pv 0) pe_int (fun _ _ => rfl)) (pa_cons pe_int pa_nil)))) pss_nil)
              (pss_one (ps_ret (pe_op op_mod (pe_callTy call_int1 (by rfl) B.b_int (by decide +kernel) (pa_cons (pv 2) pa_nil)) (pv 1))))))) pss_nil)
            (pss_cons (ps_asg (pe_op op_add (pe_ix ix_list (pv 0) pe_int (fun _ _ => rfl)) pe_int) (pg_sub (pv 0) pe_int set_list))
            (pss_cons (ps_set (i := 2) sc__law_pick.nd rfl (.inl rfl) (pe_op op_mod (pe_callTy call_int1 (by rfl) B.b_int (by decide +kernel) (pa_cons (pe_op op_add (pe_op op_mul (pe_op op_add (pe_ix ix_list (pv 0) pe_int (fun _ _ => rfl)) (pe_op op_mul pe_int (pe_ix ix_list (pv 0) pe_int (fun _ _ => rfl)))) pe_int) pe_int) pa_nil)) pe_int))
            (pss_cons (ps_set (i := 2) sc__law_pick.nd rfl (.inl rfl) (pe_op op_mod (pe_callTy call_int1 (by rfl) B.b_int (by decide +kernel) (pa_cons (pe_op op_add (pe_op op_mul (pv 2) (pe_op op_add (pe_op op_fdiv (pv 2) pe_int) pe_int)) (pe_ix ix_list (pv 0) pe_int (fun _ _ => rfl))) pa_nil)) pe_int))
            (pss_cons (ps_asg (pe_op op_mod (pe_callTy call_int1 (by rfl) B.b_int (by decide +kernel) (pa_cons (pe_op op_add (pe_ix ix_list (pv 0) pe_int (fun _ _ => rfl)) (pv 2)) pa_nil)) pe_int) (pg_sub (pv 0) pe_int set_list))
            (pss_one (ps_ret (pe_op op_mod (pe_callTy call_int1 (by rfl) B.b_int (by decide +kernel) (pa_cons (pe_op op_fdiv (pv 2) pe_int) pa_nil)) (pv 1))))))))), ?_⟩
          -- bag[2] == 0
          refine ⟨_, rfl, a, _, 2, _, rfl, rfl, SqL.of ha, atI_nat (j := 2) rfl, rfl, _, rfl, ite2 (fun h0 => ?_) (fun h0 => ?_)⟩
          · have e0 : b.n = 0 := V.int.inj (of_decide_eq_true h0)
            exact fin b H 0 (by unfold pickB; rw [if_pos e0]) ⟨ha, hg, hl⟩ fun _ _ _ _ z => z
          have n0 : b.n ≠ 0 := fun e => h0 (decide_eq_true (by rw [e]))
          -- len(bag[0]) > 0
          refine ⟨_, rfl, a, _, 0, _, rfl, rfl, SqL.of ha, atI_nat (j := 0) rfl, g, _, rfl, .inl (SqL.of hg), _, _, rfl, rfl, _, rfl, ite2 (fun h1 => ?_) (fun h1 => ?_)⟩
          · have h1' : 0 < b.gs.length := by
              have z := of_decide_eq_true h1
              rw [List.length_map] at z
              omega
            obtain ⟨x, r, eg⟩ : ∃ x r, b.gs = x :: r := by
              cases e : b.gs with
              | nil => rw [e] at h1'; exact absurd h1' (Nat.lt_irrefl _)
              | cons x r => exact ⟨x, r, rfl⟩
            rw [eg] at hg hl
            have hx : (List.map V.int (x :: r))[0]? = some (.int x) := rfl
            -- number = bag[0][0]
            refine ⟨_, rfl, a, _, 0, _, rfl, rfl, SqL.of ha, atI_nat (j := 0) rfl, g, _, 0, _, rfl, rfl, SqL.of hg, atI_nat (j := 0) hx, ?_⟩
            -- bag[0][0] = number // many
            refine ⟨_, rfl, _, rfl, x, many, rfl, rfl, ⟨hm0, by omega⟩, _, rfl, a, _, 0, _, rfl, rfl, SqL.of ha, atI_nat (j := 0) rfl, g, _, 0, 0, rfl, rfl, hg, by unfold ixN; rw [if_pos (by decide), if_pos (by simp)]; rfl, ?_⟩
            have ha2 : upd H g (.lst ((List.map V.int (x :: r)).set 0 (.int (x / many)))) a = some (.lst [.ref g, .int b.seed, .int b.n, .int b.cnt]) := by rw [upd_ne nag.symm]; exact ha
            -- if number < many
            refine ⟨_, rfl, _, rfl, x, many, rfl, rfl, _, rfl, ite2 (fun h2 => ?_) (fun h2 => ?_)⟩
            · have h2' := of_decide_eq_true h2
              refine ⟨_, rfl, a, _, 0, _, rfl, rfl, SqL.of ha2, atI_nat (j := 0) rfl, .inl ⟨rfl, _, SqL.of upd_same⟩, g, _, 0, 0, _, rfl, rfl, upd_same, by decide, by decide, by simp [seqIndex?], rfl, ?_⟩
              refine ⟨_, rfl, .inl ⟨_, rfl, _, rfl, x, many, rfl, rfl, hm0, ?_⟩⟩
              refine fin { b with gs := r } _ _ (by unfold pickB; rw [if_neg n0, eg]; simp only; rw [if_pos h2']) ⟨?_, ?_, by simp at hl ⊢; omega⟩ (fun q o n1 n2 z => ?_)
              · rw [upd_ne nag.symm]; exact ha2
              · rw [upd_same]; rfl
              · rw [upd_ne n2, upd_ne n2]; exact z
            · have h2' := of_decide_eq_false (Bool.eq_false_iff.mpr h2)
              refine ⟨_, rfl, .inl ⟨_, rfl, _, rfl, x, many, rfl, rfl, hm0, ?_⟩⟩
              refine fin { b with gs := (x / many) :: r } _ _ (by unfold pickB; rw [if_neg n0, eg]; simp only; rw [if_neg h2']) ⟨ha2, ?_, by simpa using hl⟩ (fun q o n1 n2 z => ?_)
              · rw [upd_same]; rfl
              · rw [upd_ne n2]; exact z
          · have eg : b.gs = [] := by
              cases e : b.gs with
              | nil => rfl
              | cons x r =>
                rw [e] at h1
                exact (h1 (decide_eq_true (by simp))).elim
            -- bag[3] = bag[3] + 1
            refine ⟨_, rfl, a, _, 3, _, rfl, rfl, SqL.of ha, atI_nat (j := 3) rfl, _, _, rfl, rfl, _, rfl, a, _, 3, 3, rfl, rfl, ha, rfl, ?_⟩
            generalize hH1 : upd H a (.lst ([V.ref g, .int b.seed, .int b.n, .int b.cnt].set 3 (.int (b.cnt + 1)))) = H1
            have ha1 : H1 a = some (.lst [.ref g, .int b.seed, .int b.n, .int (b.cnt + 1)]) := by rw [← hH1, upd_same]; rfl
            have hg1 : H1 g = some (.lst (b.gs.map V.int)) := by rw [← hH1, upd_ne nag]; exact hg
            have hk1 : ∀ q o, q ≠ a → q ≠ g → H q = some o → H1 q = some o := fun q o n1 _ z => by rw [← hH1, upd_ne n1]; exact z
            -- number = ..
            refine ⟨_, rfl, a, _, 1, _, rfl, rfl, SqL.of ha1, atI_nat (j := 1) rfl, _, rfl, a, _, 3, _, rfl, rfl, SqL.of ha1, atI_nat (j := 3) rfl, _, _, rfl, rfl, .inl ⟨by decide, by decide⟩, _, _, rfl, rfl, _, _, rfl, rfl, .inr ⟨by decide, by decide⟩, _, _, rfl, rfl, .inl ⟨_, rfl, _, _, rfl, rfl, by show (0 : Int) < 2147483647; decide, ?_⟩⟩
            obtain ⟨x, hx⟩ : ∃ x, ((b.seed + 7919 * (b.cnt + 1)) * 48271 + 11) % 2147483647 = x := ⟨_, rfl⟩
            have hx0 : 0 ≤ x := by rw [← hx]; exact Int.emod_nonneg _ (by decide)
            have hx1 : x < 2147483647 := by rw [← hx]; exact Int.emod_lt_of_pos _ (by decide)
            refine ⟨_, rfl, _, rfl, _, _, rfl, rfl, ⟨by decide, by decide⟩, _, _, rfl, rfl, _, _, rfl, rfl, .inl ⟨by omega, by omega⟩, _, rfl, a, _, 3, _, rfl, rfl, SqL.of ha1, atI_nat (j := 3) rfl, _, _, rfl, rfl, .inl ⟨_, rfl, _, _, rfl, rfl, by show (0 : Int) < 2147483399; decide, ?_⟩⟩
            -- bag[1] = ..
            refine ⟨_, rfl, a, _, 1, _, rfl, rfl, SqL.of ha1, atI_nat (j := 1) rfl, _, rfl, _, _, rfl, rfl, .inl ⟨_, rfl, _, _, rfl, rfl, by show (0 : Int) < 2147483629; decide, _, rfl, a, _, 1, 1, rfl, rfl, ha1, rfl, ?_⟩⟩
            refine ⟨_, rfl, _, _, rfl, rfl, ⟨by decide, by decide⟩, .inl ⟨_, rfl, _, rfl, _, _, rfl, rfl, hm0, ?_⟩⟩
            refine fin (pickB many b).2 _ _ (by unfold pickB; rw [if_neg n0, eg]) ⟨?_, ?_, by unfold pickB; rw [if_neg n0, eg]; exact Nat.zero_le _⟩ (fun q o n1 n2 z => ?_)
            · rw [upd_same]; unfold pickB; rw [if_neg n0, eg]; rfl
            · rw [upd_ne nag]; unfold pickB; rw [if_neg n0, eg]; rw [eg] at hg1; exact hg1
            · rw [upd_ne n1]; exact hk1 q o n1 n2 z
      · exact p.elim
    · exact p.elim
abbrev s__law_bag : Stmt := topS 65
theorem sc__law_bag : FnScope ["script", "great", "seed", "cell"] ["script"] (defScope s__law_bag) := ⟨rfl, rfl, rfl, by decide +kernel, rfl, by decide +kernel, by decide +kernel⟩
def spBag (K : PySem.W.Frag) : Sp := fun vs H Q _ => ∃ (a : Addr) (ns : List Int), vs = [.ref a] ∧ SqL K H a (ns.map V.int) ∧ ns.length ≤ 63 ∧ ∀ H' p g b, Same H H' → H p = none → H g = none → BagAt p g b H' → Q (.ref p) H'
theorem cut_map (ns : List Int) (lo hi : Option Int) : cutV (ns.map V.int) lo hi = (cutL ns lo hi).map V.int := by
  unfold cutV cutL
  rw [List.length_map, List.map_take, List.map_drop]
theorem cut_len {α : Type} (ns : List α) (lo hi : Option Int) : (cutL ns lo hi).length ≤ ns.length := by
  unfold cutL
  rw [List.length_take, List.length_drop]
  omega
theorem map_at {ns : List Int} {i : Nat} {x : V} (h : (ns.map V.int)[i]? = some x) : ∃ n, x = .int n := by
  rw [List.getElem?_map] at h
  cases z : ns[i]? with
  | none => rw [z] at h; cases h
  | some n => rw [z] at h; exact ⟨n, (Option.some.inj h).symm⟩
theorem ok__law_bag {f : Addr} {fd : FuncData} (F : Fun K "_law_bag" "_law_bag" s__law_bag f fd) (B : Bt mg) : FnOk P w K mg base CX0 1 f fd ["script"] (spBag K) := by
  refine F.ok sc__law_bag (fun vs H Q E h => ?_) (fun cdv A outer s H vs Q E hr h => ?_)
  · obtain ⟨a, ns, rfl, _⟩ := h
    rfl
  · obtain ⟨a, ns, rfl, hS, hn, q⟩ := h
    refine ⟨_, pss_cons (ps_setLc (i := 1) (own := [("cell", 3)]) (g := gName 3) rfl sc__law_bag.nd rfl rfl (sw_true rfl rfl rfl (by decide +kernel)) (pi_list (pe_slice sl_list (pv 0) po_none (po_some pe_int))) (blkOk_by (own := [("cell", 3)]) (N := ["script", "great", "seed", "cell"]) (sc := defScope s__law_bag) (by decide +kernel))
          (fun _ _ _ _ _ => pg_name (i := 3) sc__law_bag.nd rfl (.inl rfl))
          (fun _ _ _ _ _ => pts_one (pt_cmpR op_ge (pe_callB call_abs (by rfl) B.b_abs (by decide +kernel) (pa_cons (pe_callTy call_int1 (by rfl) B.b_int (by decide +kernel) (pa_cons (pv 3) pa_nil)) pa_nil)) (pe_op op_pow pe_int pe_int) (nomark _)))
          (fun _ _ _ _ _ => pe_callB call_abs (by rfl) B.b_abs (by decide +kernel) (pa_cons (pe_callTy call_int1 (by rfl) B.b_int (by decide +kernel) (pa_cons (pv 3) pa_nil)) pa_nil)))
      (pss_cons (ps_set (i := 2) sc__law_bag.nd rfl (.inl rfl) pe_int)
      (pss_cons (ps_for PassesOwn.never rfl (pi_list (pe_slice sl_list (pv 0) po_none (po_some pe_int))) (pg_name (i := 3) sc__law_bag.nd rfl (.inl rfl))
        (pss_one (ps_set (i := 2) sc__law_bag.nd rfl (.inl rfl) (pe_op op_mod (pe_callTy call_int1 (by rfl) B.b_int (by decide +kernel) (pa_cons
          (pe_op op_add (pe_op op_add (pe_op op_add (pe_op op_mul (pv 2) pe_int) (pe_op op_mul (pe_callB call_abs (by rfl) B.b_abs (by decide +kernel) (pa_cons (pe_callTy call_int1 (by rfl) B.b_int (by decide +kernel) (pa_cons (pv 3) pa_nil)) pa_nil)) pe_int))
            (pe_callTy call_int1 (by rfl) B.b_int (by decide +kernel) (pa_cons (pe_cmpR op_lt (pe_callTy call_int1 (by rfl) B.b_int (by decide +kernel) (pa_cons (pv 3) pa_nil)) pe_int (nomark _)) pa_nil))) pe_int) pa_nil)) pe_int))))
      (pss_one (ps_ret (pe_lst (pa_cons (pv 1) (pa_cons (pv 2) (pa_cons (pe_callB call_len_seq (by rfl) B.b_len PySem.boot_len (pa_cons (pv 0) pa_nil)) (pa_cons pe_int pa_nil))))))))), ?_⟩
    -- great
    refine ⟨_, rfl, 63, rfl, a, _, rfl, hS, fun p np => ⟨p, rfl, ⟨_, SqL.of upd_same⟩, fun L hL => ?_⟩⟩
    rw [cut_map] at hL ⊢
    have hml : (cutL ns none (some 63)).length ≤ 63 := Nat.le_trans (cut_len ns none (some 63)) hn
    have smp : ∀ (o : HO), Same H (upd H p o) := fun o b u e => by rw [upd_ne (ne_of_none e np)]; exact e
    have nLp : p ≠ L := fun e => by rw [← e, upd_same] at hL; cases hL
    have hL0 : H L = none := by rw [upd_ne nLp.symm] at hL; exact hL
    refine lc_list (K := K) (a := p) (xs := (cutL ns none (some 63)).map V.int) (fun i H2 => ∃ gs : List Int, H2 L = some (.lst (gs.map V.int)) ∧ gs.length ≤ i ∧ i ≤ 63 ∧ H2 p = some (.lst ((cutL ns none (some 63)).map V.int)) ∧ Same H H2) ?_ (fun i H2 _ hP => SqL.of hP.choose_spec.2.2.2.1) (fun i x H2 hx hP => ?_) (fun H2 hP => ?_)
    · exact ⟨[], upd_same, Nat.le_refl _, by omega, by rw [upd_ne nLp]; exact upd_same, fun b o e => by rw [upd_ne (ne_of_none e hL0)]; exact smp _ b o e⟩
    · obtain ⟨gs, h1, h2, hi, h3, h4⟩ := hP
      obtain ⟨m, rfl⟩ := map_at hx
      have hi2 : i + 1 ≤ 63 := by
        have := (List.getElem?_eq_some_iff.mp hx).1
        rw [List.length_map] at this
        omega
      refine ⟨rfl, _, rfl, .inl ⟨m, rfl, m, rfl, 10, 18, rfl, rfl, ⟨by decide, by decide, by decide⟩, _, _, rfl, rfl, _, rfl, ite2 (fun _ => ?_) (fun _ => ?_)⟩⟩
      · refine ⟨_, rfl, .inl ⟨m, rfl, m, rfl, gs.map V.int, h1, by rw [List.length_map]; exact line_lt (by omega), gs ++ [if m < 0 then -m else m], ?_, by simp; omega, hi2, ?_, fun b o e => ?_⟩⟩
        · rw [upd_same, List.map_append]; rfl
        · rw [upd_ne nLp]; exact h3
        · rw [upd_ne (ne_of_none e hL0)]; exact h4 b o e
      · exact ⟨gs, h1, Nat.le_succ_of_le h2, hi2, h3, h4⟩
    · obtain ⟨gs, h1, h2, hi, h3, h4⟩ := hP
      have hS2 : SqL K H2 a (ns.map V.int) := h4.seq hS
      -- seed, the loop
      refine ⟨_, rfl, 63, rfl, a, _, rfl, hS2, fun c nc => ⟨c, rfl, ⟨_, SqL.of upd_same⟩, ?_⟩⟩
      rw [cut_map]
      have sm2 : ∀ (o : HO), Same H2 (upd H2 c o) := fun o b u e => by rw [upd_ne (ne_of_none e nc)]; exact e
      refine for_list (K := K) (a := c) (xs := (cutL ns none (some 63)).map V.int) (fun i σ H3 => ∃ s x3, σ = [some (.ref a), some (.ref L), some (.int s), x3] ∧ H3 = upd H2 c (.lst ((cutL ns none (some 63)).map V.int))) ⟨_, _, rfl, rfl⟩ (fun i σ H3 _ hP => by obtain ⟨s, x3, rfl, rfl⟩ := hP; exact SqL.of upd_same) (fun i x σ H3 hx hP => ?_) (fun σ H3 hP => ?_)
      · obtain ⟨s, x3, rfl, rfl⟩ := hP
        obtain ⟨m, rfl⟩ := map_at hx
        refine ⟨_, rfl, _, _, rfl, rfl, .inr ⟨by decide, by decide⟩, _, rfl, .inl ⟨m, rfl, m, rfl, _, _, rfl, rfl, .inr ⟨by decide, by decide⟩, _, _, rfl, rfl, _, rfl, .inl ⟨m, rfl, _, _, rfl, rfl, .inr ⟨_, rfl, _, _, rfl, rfl, _, _, rfl, rfl, .inl ⟨_, rfl, _, _, rfl, rfl, by show (0 : Int) < 2147483629; decide, _, _, rfl, rfl⟩⟩⟩⟩⟩
      · obtain ⟨s, x3, rfl, rfl⟩ := hP
        refine ⟨_, rfl, _, rfl, _, rfl, a, _, rfl, .inl ((sm2 _).seq hS2), by show 4 ≤ sizeLine; rw [sizeLine_eq]; omega, fun z nz => ?_⟩
        have zn : ∀ {b : Addr} {o : HO}, H2 b = some o → b ≠ z := fun {b o} e => ne_of_none (sm2 _ b o e) nz
        refine q _ z L ⟨gs, s, ((ns.map V.int).length : Nat), 0⟩ (fun b o e => ?_) ?_ hL0 ⟨?_, ?_, by show gs.length ≤ 1000; rw [List.length_map] at h2; omega⟩
        · rw [upd_ne (zn (h4 b o e))]; exact sm2 _ b o (h4 b o e)
        · cases e : H z with
          | none => rfl
          | some o => exact absurd rfl (zn (h4 z o e))
        · rw [upd_same]
        · rw [upd_ne (zn h1)]; exact sm2 _ L _ h1
theorem cal__law_pick {h : Heap} (X : K.In h) (G : h.Ns mainGlobals mg) (A : FunAt K "_law_pick" s__law_pick) (B : Bt mg) : CalleeS P w K mg base "_law_pick" 1 bagR m_pick := by
  obtain ⟨f, fd, a, F⟩ := A
  exact ⟨f, fd, ["bag", "many"], ok__law_pick F B, PySem.W.mg_of X G a, F.kp, F.binds fun _ _ _ _ _ _ us hl => match us, hl with | [_, _], _ => rfl⟩
def m__law_pick : List D → Bag → Res (D × Bag) := m_pick
def spLaw (K : PySem.W.Frag) : Sp := fun vs H Q _ => ∃ (a : Addr) (ns : List Int), vs = [.ref a] ∧ SqL K H a (ns.map V.int) ∧ ns.length ≤ 63 ∧ ∀ H', Q (.bl true) H'

abbrev s__law_lamps : Stmt := topS 68
def m__law_lamps : List D → Res D := runF 1 8 (sSeq (sSet 1 (eCall lenD (aCons (eV 0) aNil))) (sSeq (sSet 3 (eLc (iRg1 (aCons (eV 1) aNil)) [2] (tgN 2) (tst (e2 eqD (e2 ixD (eV 0) (eV 2)) (eC (.int 1)))) (eV 2))) (sSeq (sSetN 4 (eLst aNil)) (sSeq (sFor (iEnumA (eV 3)) (tgT (tgCons (tgN 5) (tgCons (tgN 2) tgNil))) (sSeq (sSet 6 (e2 ixD (e2 addD (eV 3) (eV 3)) (e2 addD (eV 5) (eC (.int 1))))) (sSeq (sSet 7 (e2 modD (eCall intD (aCons (e2 subD (eV 6) (eV 2)) aNil)) (eV 1))) (sApp 4 (eTup (aCons (eV 2) (aCons (eIf (tst (e2 gtD (eV 7) (eC (.int 0)))) (eV 7) (eV 1)) aNil))))))) (sRet (eCall tupleD (aCons (eVq 4) aNil)))))))
abbrev n__law_lamps : List Str := ["row", "size", "place", "ones", "found", "at", "after_now", "many"]
theorem sc__law_lamps : FnScope n__law_lamps ["row"] (defScope s__law_lamps) := ⟨rfl, rfl, rfl, by decide +kernel, rfl, by decide +kernel, by decide +kernel⟩
theorem ok__law_lamps {f : Addr} {fd : FuncData} (F : Fun K "_law_lamps" "_law_lamps" s__law_lamps f fd) (B : Bt mg)  : FnOk P w K mg base CX0 1 f fd ["row"] (spD m__law_lamps) := by
  refine F.ok sc__law_lamps (fun vs H Q E h => spD_len h) (fun cdv A outer s H vs Q E hr h => ?_)
  have hu : (A.deeper (envOfC "_law_lamps" (defScope s__law_lamps) s.heap.objs.size f cdv)).units + 64 < cLine := hr.units
  have hu1 : (A.deeper (envOfC "_law_lamps" (defScope s__law_lamps) s.heap.objs.size f cdv)).units + 1 < cLine := hu_of hr
  have hu2 : (A.deeper (envOfC "_law_lamps" (defScope s__law_lamps) s.heap.objs.size f cdv)).units + 65 < cLine := by have := hr.un; omega
  exact body_end (Nm := n__law_lamps) (n := 1) rfl (dss_cons (ds_set (hs := rfl) (hf := .inl rfl) (i := 1) sc__law_lamps.nd rfl (by first | exact .inl rfl | exact .inr rfl) (de_callB (hn := by decide) (hdb := by decide) (he := rfl) (hpl := rfl) (k_len (K := K) rfl) nx_len rfl B.b_len (by decide +kernel) (db_cons (hs := rfl) (dq_of (de_v 0)) db_nil))) (dss_cons (ds_lc (ps_lc (hs := fun _ => rfl) (i := 3) rfl sc__law_lamps.nd rfl rfl (sw_true rfl rfl rfl (by decide +kernel)) (g := (gName 2)) (dj_of (di_range1 (hs := rfl) rfl B.b_range (db_cons (hs := rfl) (dq_of (de_v 1)) db_nil))) (blkOk_by (own := [("place", 2)]) (N := n__law_lamps) (sc := defScope s__law_lamps) (by decide +kernel)) (fun _ _ _ _ _ => (dgn_name (i := 2) sc__law_lamps.nd rfl (by first | exact .inl rfl | exact .inr rfl))) (ng_n 2) (by decide) (fun _ _ _ _ _ => dts_one (dt_cmp (k_eq (K := K) rfl hu) nx_eq (dq_of (k_ix (hs := fun _ _ => rfl) (K := K) rfl (dq_of (de_v 0)) (dq_of (de_v 2)))) (dq_of de_int) (nomark _))) (fun _ _ _ _ _ => (de_v 2)))) (dss_cons (ds_setN (hs := rfl) (hf := .inl rfl) (i := 4) sc__law_lamps.nd rfl (by first | exact .inl rfl | exact .inr rfl) (dn_lst da_nil)) (dss_cons (ds_for (hs := fun _ => rfl) PassesOwn.never rfl (k_enumA (hs := rfl) (hs2 := rfl) (K := K) rfl rfl B.b_enumerate (de_v 3)) (ggtK (K := K) rfl rfl (by rfl) (by rfl) (tl_cons (tl_cons tl_nil)) (fun ds η w c _ => (ng_cons (ng_n 5) (ng_cons (ng_n 2) ng_nil)).2 ds η w c) (ggs (by rfl) (dg_name (i := 5) sc__law_lamps.nd rfl (by first | exact .inl rfl | exact .inr rfl)) (ggs (by rfl) (dg_name (i := 2) sc__law_lamps.nd rfl (by first | exact .inl rfl | exact .inr rfl)) dgs_nil))) (dss_cons (ds_set (hs := rfl) (hf := .inl rfl) (i := 6) sc__law_lamps.nd rfl (by first | exact .inl rfl | exact .inr rfl) (k_ix (hs := fun _ _ => rfl) (K := K) rfl (dq_of (de_op (k_add (K := K) rfl) nx_add (dq_of (de_v 3)) (dq_of (de_v 3)))) (dq_of (de_op (k_add (K := K) rfl) nx_add (dq_of (de_v 5)) (dq_of de_int))))) (dss_cons (ds_set (hs := rfl) (hf := .inl rfl) (i := 7) sc__law_lamps.nd rfl (by first | exact .inl rfl | exact .inr rfl) (de_op o_mod nx_mod (dq_of (de_callTy (hn := by decide) (hdb := by decide) (he := rfl) (hpl := rfl) c_int nx_int rfl B.b_int (by decide +kernel) (db_cons (hs := rfl) (dq_of (de_op o_sub nx_i2 (dq_of (de_v 6)) (dq_of (de_v 2)))) db_nil))) (dq_of (de_v 1)))) (dss_one (ds_app (hN := rfl) (hv := by first | exact Or.inl rfl | exact Or.inr (Or.inl rfl)) (hb := rfl) (hf := rfl) (hl := rfl) (hs := rfl) (hp := rfl) (hsw := rfl) (hd := by decide) (hcd := by decide) 4 (he := (de_tup (da_cons (hs := rfl) (de_v 2) (da_cons (hs := rfl) (de_if (dt_cmp o_gt nx_c2 (dq_of (de_v 7)) (dq_of de_int) (nomark _)) (de_v 7) (de_v 1)) da_nil))))))))) (dss_one (ds_ret (de_callTy (hn := by decide) (hdb := by decide) (he := rfl) (hpl := rfl) (k_tuple (K := K) rfl) nx_tuple rfl B.b_tuple (by decide +kernel) (db_cons (hs := rfl) (dq_v 4) db_nil)))))))) h
theorem cal__law_lamps {h : Heap} (X : K.In h) (G : h.Ns mainGlobals mg) (A : FunAt K "_law_lamps" s__law_lamps) (B : Bt mg)  : Callee P w K mg base "_law_lamps" 1 m__law_lamps := by
  obtain ⟨f, fd, a, F⟩ := A
  exact ⟨f, fd, ["row"], ok__law_lamps F B , PySem.W.mg_of X G a, F.kp, F.binds fun _ _ _ _ _ _ us hl => match us, hl with | [_], _ => rfl⟩
abbrev s__law_lots : Stmt := topS 72
def m__law_lots : List D → Res D := runF 1 4 (sSeq (sSet 1 (eLst (aCons (eTup aNil) aNil))) (sSeq (sFor (iRg1 (aCons (eV 0) aNil)) (tgN 2) (sSet 1 (e2 addD (eV 1) (eLc (iSeq (eV 1)) [3] (tgN 3) tYesF (e2 addD (eV 3) (eTup (aCons (eV 2) aNil))))))) (sRet (eV 1))))
abbrev n__law_lots : List Str := ["many", "found", "one", "lot"]
theorem sc__law_lots : FnScope n__law_lots ["many"] (defScope s__law_lots) := ⟨rfl, rfl, rfl, by decide +kernel, rfl, by decide +kernel, by decide +kernel⟩
theorem ok__law_lots {f : Addr} {fd : FuncData} (F : Fun K "_law_lots" "_law_lots" s__law_lots f fd) (B : Bt mg)  : FnOk P w K mg base CX0 1 f fd ["many"] (spD m__law_lots) := by
  refine F.ok sc__law_lots (fun vs H Q E h => spD_len h) (fun cdv A outer s H vs Q E hr h => ?_)
  have hu : (A.deeper (envOfC "_law_lots" (defScope s__law_lots) s.heap.objs.size f cdv)).units + 64 < cLine := hr.units
  have hu1 : (A.deeper (envOfC "_law_lots" (defScope s__law_lots) s.heap.objs.size f cdv)).units + 1 < cLine := hu_of hr
  have hu2 : (A.deeper (envOfC "_law_lots" (defScope s__law_lots) s.heap.objs.size f cdv)).units + 65 < cLine := by have := hr.un; omega
  exact body_end (Nm := n__law_lots) (n := 1) rfl (dss_cons (ds_set (hs := rfl) (hf := .inl rfl) (i := 1) sc__law_lots.nd rfl (by first | exact .inl rfl | exact .inr rfl) (de_of (dn_lst (da_cons (hs := rfl) (de_tup da_nil) da_nil)))) (dss_cons (ds_for (hs := fun _ => rfl) PassesOwn.never rfl (di_range1 (hs := rfl) rfl B.b_range (db_cons (hs := rfl) (dq_of (de_v 0)) db_nil)) (dg_name (i := 2) sc__law_lots.nd rfl (by first | exact .inl rfl | exact .inr rfl)) (dss_one (ds_set (hs := rfl) (hf := .inl rfl) (i := 1) sc__law_lots.nd rfl (by first | exact .inl rfl | exact .inr rfl) (de_op (k_add (K := K) rfl) nx_add (dq_of (de_v 1)) (dq_of (de_of (dn_lc (hs := fun _ => rfl) rfl sc__law_lots.nd (g := (gName 3)) (dj_of (k_seq (K := K) rfl (de_v 1))) (blkOk_by (own := [("lot", 3)]) (N := n__law_lots) (sc := defScope s__law_lots) (by decide +kernel)) (fun _ _ _ _ _ => (dgn_name (i := 3) sc__law_lots.nd rfl (by first | exact .inl rfl | exact .inr rfl))) (ng_n 3) (by decide) (fun _ _ _ _ _ => dts_nil) (fun _ _ _ _ _ => (de_op (k_add (K := K) rfl) nx_add (dq_of (de_v 3)) (dq_of (de_tup (da_cons (hs := rfl) (de_v 2) da_nil)))))))))))) (dss_one (ds_ret (de_v 1))))) h
theorem cal__law_lots {h : Heap} (X : K.In h) (G : h.Ns mainGlobals mg) (A : FunAt K "_law_lots" s__law_lots) (B : Bt mg)  : Callee P w K mg base "_law_lots" 1 m__law_lots := by
  obtain ⟨f, fd, a, F⟩ := A
  exact ⟨f, fd, ["many"], ok__law_lots F B , PySem.W.mg_of X G a, F.kp, F.binds fun _ _ _ _ _ _ us hl => match us, hl with | [_], _ => rfl⟩
abbrev s_is_within : Stmt := topS 2
def m_is_within : List D → Res D := runF 3 3 (sRet (eAnd (eFn (fun ds => noX (m_is_integer ds)) (aCons (eV 0) aNil)) (eChain leD leD (eV 1) (eV 0) (eV 2))))
abbrev n_is_within : List Str := ["thing", "least", "most"]
theorem sc_is_within : FnScope n_is_within ["thing", "least", "most"] (defScope s_is_within) := ⟨rfl, rfl, rfl, by decide +kernel, rfl, by decide +kernel, by decide +kernel⟩
theorem ok_is_within {f : Addr} {fd : FuncData} (F : Fun K "is_within" "is_within" s_is_within f fd) (B : Bt mg) (C_is_integer : Callee P w K mg base "is_integer" 1 m_is_integer) : FnOk P w K mg base CX0 2 f fd ["thing", "least", "most"] (spD m_is_within) := by
  refine F.ok sc_is_within (fun vs H Q E h => spD_len h) (fun cdv A outer s H vs Q E hr h => ?_)
  have hu : (A.deeper (envOfC "is_within" (defScope s_is_within) s.heap.objs.size f cdv)).units + 64 < cLine := hr.units
  have hu1 : (A.deeper (envOfC "is_within" (defScope s_is_within) s.heap.objs.size f cdv)).units + 1 < cLine := hu_of hr
  have hu2 : (A.deeper (envOfC "is_within" (defScope s_is_within) s.heap.objs.size f cdv)).units + 65 < cLine := by have := hr.un; omega
  exact body_end (Nm := n_is_within) (n := 3) rfl (dss_one (ds_ret (de_and (de_callC (hdb := by decide) (he := rfl) (hpl := rfl) C_is_integer (hr.mono (by decide)) rfl (da_cons (hs := rfl) (de_v 0) da_nil)) (de_one (de_chain (hm := by with_unfolding_all rfl) o_le nx_c2 o_le nx_c2 (dq_of (de_v 1)) (dq_of (de_v 0)) (dq_of (de_v 2))))))) h
theorem cal_is_within {h : Heap} (X : K.In h) (G : h.Ns mainGlobals mg) (A : FunAt K "is_within" s_is_within) (B : Bt mg) (C_is_integer : Callee P w K mg base "is_integer" 1 m_is_integer) : Callee P w K mg base "is_within" 2 m_is_within := by
  obtain ⟨f, fd, a, F⟩ := A
  exact ⟨f, fd, ["thing", "least", "most"], ok_is_within F B C_is_integer, PySem.W.mg_of X G a, F.kp, F.binds fun _ _ _ _ _ _ us hl => match us, hl with | [_, _, _], _ => rfl⟩
abbrev s_all_lots : Stmt := topS 17
def m_all_lots : List D → Res D := runF 1 3 (sSeq (sSetN 1 (eLst aNil)) (sSeq (sFor (iRg1 (aCons (e2 addD (eV 0) (eC (.int 1))) aNil)) (tgN 2) (sExt 1 (eFn (fun ds => noX (m_lots_of ds)) (aCons (eV 0) (aCons (eV 2) aNil))))) (sFz 1 (sRet (eV 1)))))
abbrev n_all_lots : List Str := ["many", "found", "size"]
theorem sc_all_lots : FnScope n_all_lots ["many"] (defScope s_all_lots) := ⟨rfl, rfl, rfl, by decide +kernel, rfl, by decide +kernel, by decide +kernel⟩
theorem ok_all_lots {f : Addr} {fd : FuncData} (F : Fun K "all_lots" "all_lots" s_all_lots f fd) (B : Bt mg) (C_lots_of : Callee P w K mg base "lots_of" 1 m_lots_of) : FnOk P w K mg base CX0 2 f fd ["many"] (spD m_all_lots) := by
  refine F.ok sc_all_lots (fun vs H Q E h => spD_len h) (fun cdv A outer s H vs Q E hr h => ?_)
  have hu : (A.deeper (envOfC "all_lots" (defScope s_all_lots) s.heap.objs.size f cdv)).units + 64 < cLine := hr.units
  have hu1 : (A.deeper (envOfC "all_lots" (defScope s_all_lots) s.heap.objs.size f cdv)).units + 1 < cLine := hu_of hr
  have hu2 : (A.deeper (envOfC "all_lots" (defScope s_all_lots) s.heap.objs.size f cdv)).units + 65 < cLine := by have := hr.un; omega
  exact body_end (Nm := n_all_lots) (n := 1) rfl (dss_cons (ds_setN (hs := rfl) (hf := .inl rfl) (i := 1) sc_all_lots.nd rfl (by first | exact .inl rfl | exact .inr rfl) (dn_lst da_nil)) (dss_cons (ds_for (hs := fun _ => rfl) PassesOwn.never rfl (di_range1 (hs := rfl) rfl B.b_range (db_cons (hs := rfl) (dq_of (de_op (k_add (K := K) rfl) nx_add (dq_of (de_v 0)) (dq_of de_int))) db_nil)) (dg_name (i := 2) sc_all_lots.nd rfl (by first | exact .inl rfl | exact .inr rfl)) (dss_one (ds_ext (hN := rfl) (hv := by first | exact Or.inl rfl | exact Or.inr (Or.inl rfl)) (hb := rfl) (hf := rfl) (hl := rfl) (hs := rfl) (hp := rfl) (hsw := rfl) (hd := by decide) (hcd := by decide) 1 (he := (de_callC (hdb := by decide) (he := rfl) (hpl := rfl) C_lots_of (hr.mono (by decide)) rfl (da_cons (hs := rfl) (de_v 0) (da_cons (hs := rfl) (de_v 2) da_nil))))))) (dss_one (ds_fz 1 (ds_ret (de_v 1)))))) h
theorem cal_all_lots {h : Heap} (X : K.In h) (G : h.Ns mainGlobals mg) (A : FunAt K "all_lots" s_all_lots) (B : Bt mg) (C_lots_of : Callee P w K mg base "lots_of" 1 m_lots_of) : Callee P w K mg base "all_lots" 2 m_all_lots := by
  obtain ⟨f, fd, a, F⟩ := A
  exact ⟨f, fd, ["many"], ok_all_lots F B C_lots_of, PySem.W.mg_of X G a, F.kp, F.binds fun _ _ _ _ _ _ us hl => match us, hl with | [_], _ => rfl⟩
abbrev s_counts_of : Stmt := topS 25
def m_counts_of : List D → Res D := runF 2 5 (sSeq (sSetN 2 (e2 repD (eLst (aCons (eC (.int 0)) aNil)) (eV 0))) (sSeq (sFor (iSeq (eV 1)) (tgN 3) (sFor (iSeq (eFn (fun ds => noX (m_places_of ds)) (aCons (eV 0) (aCons (eV 3) aNil)))) (tgN 4) (sAsg (e2 addD (e2 ixD (eVq 2) (eV 4)) (eC (.int 1))) (tgSub 2 (eV 4))))) (sFz 2 (sRet (eV 2)))))
abbrev n_counts_of : List Str := ["size", "lamps", "found", "lamp", "place"]
theorem sc_counts_of : FnScope n_counts_of ["size", "lamps"] (defScope s_counts_of) := ⟨rfl, rfl, rfl, by decide +kernel, rfl, by decide +kernel, by decide +kernel⟩
theorem ok_counts_of {f : Addr} {fd : FuncData} (F : Fun K "counts_of" "counts_of" s_counts_of f fd) (B : Bt mg) (C_places_of : Callee P w K mg base "places_of" 1 m_places_of) : FnOk P w K mg base CX0 2 f fd ["size", "lamps"] (spD m_counts_of) := by
  refine F.ok sc_counts_of (fun vs H Q E h => spD_len h) (fun cdv A outer s H vs Q E hr h => ?_)
  have hu : (A.deeper (envOfC "counts_of" (defScope s_counts_of) s.heap.objs.size f cdv)).units + 64 < cLine := hr.units
  have hu1 : (A.deeper (envOfC "counts_of" (defScope s_counts_of) s.heap.objs.size f cdv)).units + 1 < cLine := hu_of hr
  have hu2 : (A.deeper (envOfC "counts_of" (defScope s_counts_of) s.heap.objs.size f cdv)).units + 65 < cLine := by have := hr.un; omega
  exact body_end (Nm := n_counts_of) (n := 2) rfl (dss_cons (ds_setN (hs := rfl) (hf := .inl rfl) (i := 2) sc_counts_of.nd rfl (by first | exact .inl rfl | exact .inr rfl) (dn_rep (dq_of (de_of (dn_lst (da_cons (hs := rfl) de_int da_nil)))) (dq_of (de_v 0)))) (dss_cons (ds_for (hs := fun _ => rfl) PassesOwn.never rfl (k_seq (K := K) rfl (de_v 1)) (dg_name (i := 3) sc_counts_of.nd rfl (by first | exact .inl rfl | exact .inr rfl)) (dss_one (ds_for (hs := fun _ => rfl) PassesOwn.never rfl (k_seq (K := K) rfl (de_callC (hdb := by decide) (he := rfl) (hpl := rfl) C_places_of (hr.mono (by decide)) rfl (da_cons (hs := rfl) (de_v 0) (da_cons (hs := rfl) (de_v 3) da_nil)))) (dg_name (i := 4) sc_counts_of.nd rfl (by first | exact .inl rfl | exact .inr rfl)) (dss_one (ds_asg (hs := rfl) (hw := rfl) (h1 := rfl) (de_op (k_add (K := K) rfl) nx_add (dq_of (k_ix (hs := fun _ _ => rfl) (K := K) rfl (dq_v 2) (dq_of (de_v 4)))) (dq_of de_int)) (dg_sub (hN := rfl) (hv := by first | exact Or.inl rfl | exact Or.inr (Or.inl rfl)) (hd := by decide) (hcd := by decide) (ha := fun _ => rfl) 2 (hk := (dq_of (de_v 4))))))))) (dss_one (ds_fz 2 (ds_ret (de_v 2)))))) h
theorem cal_counts_of {h : Heap} (X : K.In h) (G : h.Ns mainGlobals mg) (A : FunAt K "counts_of" s_counts_of) (B : Bt mg) (C_places_of : Callee P w K mg base "places_of" 1 m_places_of) : Callee P w K mg base "counts_of" 2 m_counts_of := by
  obtain ⟨f, fd, a, F⟩ := A
  exact ⟨f, fd, ["size", "lamps"], ok_counts_of F B C_places_of, PySem.W.mg_of X G a, F.kp, F.binds fun _ _ _ _ _ _ us hl => match us, hl with | [_, _], _ => rfl⟩
abbrev s_does_bar : Stmt := topS 57
def m_does_bar : List D → Res D := runF 3 4 (sSeq (sIf (tst (e2 eqD (e2 modD (eFn (fun ds => noX (m_shared_many ds)) (aCons (eV 1) (aCons (eV 2) aNil))) (eC (.int 2))) (eC (.int 0)))) (sRet (eC (.bool false))) sNil) (sRet (eCall allD (aCons (eLc (iSeq (eV 0)) [3] (tgN 3) tYesF (e2 eqD (e2 modD (eFn (fun ds => noX (m_shared_many ds)) (aCons (eV 3) (aCons (eV 2) aNil))) (eC (.int 2))) (eC (.int 0)))) aNil))))
abbrev n_does_bar : List Str := ["switches", "wanted", "lot", "switch"]
theorem sc_does_bar : FnScope n_does_bar ["switches", "wanted", "lot"] (defScope s_does_bar) := ⟨rfl, rfl, rfl, by decide +kernel, rfl, by decide +kernel, by decide +kernel⟩
theorem ok_does_bar {f : Addr} {fd : FuncData} (F : Fun K "does_bar" "does_bar" s_does_bar f fd) (B : Bt mg) (C_shared_many : Callee P w K mg base "shared_many" 1 m_shared_many) : FnOk P w K mg base CX0 2 f fd ["switches", "wanted", "lot"] (spD m_does_bar) := by
  refine F.ok sc_does_bar (fun vs H Q E h => spD_len h) (fun cdv A outer s H vs Q E hr h => ?_)
  have hu : (A.deeper (envOfC "does_bar" (defScope s_does_bar) s.heap.objs.size f cdv)).units + 64 < cLine := hr.units
  have hu1 : (A.deeper (envOfC "does_bar" (defScope s_does_bar) s.heap.objs.size f cdv)).units + 1 < cLine := hu_of hr
  have hu2 : (A.deeper (envOfC "does_bar" (defScope s_does_bar) s.heap.objs.size f cdv)).units + 65 < cLine := by have := hr.un; omega
  exact body_end (Nm := n_does_bar) (n := 3) rfl (dss_cons (ds_if (dt_cmp (k_eq (K := K) rfl hu) nx_eq (dq_of (de_op o_mod nx_mod (dq_of (de_callC (hdb := by decide) (he := rfl) (hpl := rfl) C_shared_many (hr.mono (by decide)) rfl (da_cons (hs := rfl) (de_v 1) (da_cons (hs := rfl) (de_v 2) da_nil)))) (dq_of de_int))) (dq_of de_int) (nomark _)) (dss_one (ds_ret de_bl)) dss_nil) (dss_one (ds_ret (de_callB (hn := by decide) (hdb := by decide) (he := rfl) (hpl := rfl) (k_all (K := K) rfl rfl) nx_all rfl B.b_all (by decide +kernel) (db_cons (hs := rfl) (dq_of (de_of (dn_lc (hs := fun _ => rfl) rfl sc_does_bar.nd (g := (gName 3)) (dj_of (k_seq (K := K) rfl (de_v 0))) (blkOk_by (own := [("switch", 3)]) (N := n_does_bar) (sc := defScope s_does_bar) (by decide +kernel)) (fun _ _ _ _ _ => (dgn_name (i := 3) sc_does_bar.nd rfl (by first | exact .inl rfl | exact .inr rfl))) (ng_n 3) (by decide) (fun _ _ _ _ _ => dts_nil) (fun _ _ _ _ _ => (de_cmp (k_eq (K := K) rfl hu) nx_eq (dq_of (de_op o_mod nx_mod (dq_of (de_callC (hdb := by decide) (he := rfl) (hpl := rfl) C_shared_many (hr.mono (by decide)) rfl (da_cons (hs := rfl) (de_v 3) (da_cons (hs := rfl) (de_v 2) da_nil)))) (dq_of de_int))) (dq_of de_int) (nomark _)))))) db_nil))))) h
theorem cal_does_bar {h : Heap} (X : K.In h) (G : h.Ns mainGlobals mg) (A : FunAt K "does_bar" s_does_bar) (B : Bt mg) (C_shared_many : Callee P w K mg base "shared_many" 1 m_shared_many) : Callee P w K mg base "does_bar" 2 m_does_bar := by
  obtain ⟨f, fd, a, F⟩ := A
  exact ⟨f, fd, ["switches", "wanted", "lot"], ok_does_bar F B C_shared_many, PySem.W.mg_of X G a, F.kp, F.binds fun _ _ _ _ _ _ us hl => match us, hl with | [_, _, _], _ => rfl⟩
abbrev s__law_some : Stmt := topS 67
def m__law_some : List D → Bag → Res (D × Bag) := runS 1 2 (sRet (e2 ixD (eV 1) (eFnS 0 m__law_pick (aCons (eCall lenD (aCons (eV 1) aNil)) aNil))))
abbrev n__law_some : List Str := ["bag", "things"]
theorem sc__law_some : FnScope n__law_some ["bag", "things"] (defScope s__law_some) := ⟨rfl, rfl, rfl, by decide +kernel, rfl, by decide +kernel, by decide +kernel⟩
theorem ok__law_some {f : Addr} {fd : FuncData} (F : Fun K "_law_some" "_law_some" s__law_some f fd) (B : Bt mg) (C__law_pick : CalleeS P w K mg base "_law_pick" 1 bagR m__law_pick) : FnOk P w K mg base CX0 2 f fd ["bag", "things"] (spS bagR m__law_some) := by
  refine F.ok sc__law_some (fun vs H Q E h => spS_len h) (fun cdv A outer s H vs Q E hr h => ?_)
  have hu : (A.deeper (envOfC "_law_some" (defScope s__law_some) s.heap.objs.size f cdv)).units + 64 < cLine := hr.units
  have hu1 : (A.deeper (envOfC "_law_some" (defScope s__law_some) s.heap.objs.size f cdv)).units + 1 < cLine := hu_of hr
  have hu2 : (A.deeper (envOfC "_law_some" (defScope s__law_some) s.heap.objs.size f cdv)).units + 65 < cLine := by have := hr.un; omega
  obtain ⟨i, h⟩ := h
  exact body_endS (Rs := bagR) (Nm := n__law_some) (n := 1) rfl (dss_one (ds_ret (k_ix (hs := fun _ _ => rfl) (K := K) rfl (dq_of (de_v 1)) (dq_of (de_callS (Rs := bagR) 0 C__law_pick (hr.mono (by decide)) rfl rfl (by first | exact Or.inl rfl | exact Or.inr (Or.inl rfl) | exact Or.inr (Or.inr rfl)) (by decide) (by decide) (da_cons (hs := rfl) (de_callB (hn := by decide) (hdb := by decide) (he := rfl) (hpl := rfl) (k_len (K := K) rfl) nx_len rfl B.b_len (by decide +kernel) (db_cons (hs := rfl) (dq_of (de_v 1)) db_nil)) da_nil) (by decide) rfl rfl))))) h
theorem cal__law_some {h : Heap} (X : K.In h) (G : h.Ns mainGlobals mg) (A : FunAt K "_law_some" s__law_some) (B : Bt mg) (C__law_pick : CalleeS P w K mg base "_law_pick" 1 bagR m__law_pick) : CalleeS P w K mg base "_law_some" 2 bagR m__law_some := by
  obtain ⟨f, fd, a, F⟩ := A
  exact ⟨f, fd, ["bag", "things"], ok__law_some F B C__law_pick, PySem.W.mg_of X G a, F.kp, F.binds fun _ _ _ _ _ _ us hl => match us, hl with | [_, _], _ => rfl⟩
abbrev s_are_within : Stmt := topS 4
def m_are_within : List D → Res D := runF 3 4 (sRet (eAnd (e1 (isiD' "tuple") (eV 0)) (eCall allD (aCons (eLc (iSeq (eV 0)) [3] (tgN 3) tYesF (eFn (fun ds => noX (m_is_within ds)) (aCons (eV 3) (aCons (eV 1) (aCons (eV 2) aNil))))) aNil))))
abbrev n_are_within : List Str := ["thing", "least", "most", "one"]
theorem sc_are_within : FnScope n_are_within ["thing", "least", "most"] (defScope s_are_within) := ⟨rfl, rfl, rfl, by decide +kernel, rfl, by decide +kernel, by decide +kernel⟩
theorem ok_are_within {f : Addr} {fd : FuncData} (F : Fun K "are_within" "are_within" s_are_within f fd) (B : Bt mg) (C_is_within : Callee P w K mg base "is_within" 2 m_is_within) : FnOk P w K mg base CX0 3 f fd ["thing", "least", "most"] (spD m_are_within) := by
  refine F.ok sc_are_within (fun vs H Q E h => spD_len h) (fun cdv A outer s H vs Q E hr h => ?_)
  have hu : (A.deeper (envOfC "are_within" (defScope s_are_within) s.heap.objs.size f cdv)).units + 64 < cLine := hr.units
  have hu1 : (A.deeper (envOfC "are_within" (defScope s_are_within) s.heap.objs.size f cdv)).units + 1 < cLine := hu_of hr
  have hu2 : (A.deeper (envOfC "are_within" (defScope s_are_within) s.heap.objs.size f cdv)).units + 65 < cLine := by have := hr.un; omega
  exact body_end (Nm := n_are_within) (n := 3) rfl (dss_one (ds_ret (de_and (k_isi (hn2 := by decide) (hd2 := by decide) (s1 := rfl) (s2 := rfl) (hpl := rfl) (K := K) rfl rfl B.b_isinstance (by decide +kernel) rfl B.b_tuple (by decide +kernel) (dq_of (de_v 0))) (de_one (de_callB (hn := by decide) (hdb := by decide) (he := rfl) (hpl := rfl) (k_all (K := K) rfl rfl) nx_all rfl B.b_all (by decide +kernel) (db_cons (hs := rfl) (dq_of (de_of (dn_lc (hs := fun _ => rfl) rfl sc_are_within.nd (g := (gName 3)) (dj_of (k_seq (K := K) rfl (de_v 0))) (blkOk_by (own := [("one", 3)]) (N := n_are_within) (sc := defScope s_are_within) (by decide +kernel)) (fun _ _ _ _ _ => (dgn_name (i := 3) sc_are_within.nd rfl (by first | exact .inl rfl | exact .inr rfl))) (ng_n 3) (by decide) (fun _ _ _ _ _ => dts_nil) (fun _ _ _ _ _ => (de_callC (hdb := by decide) (he := rfl) (hpl := rfl) C_is_within (hr.mono (by decide)) rfl (da_cons (hs := rfl) (de_v 3) (da_cons (hs := rfl) (de_v 1) (da_cons (hs := rfl) (de_v 2) da_nil)))))))) db_nil)))))) h
theorem cal_are_within {h : Heap} (X : K.In h) (G : h.Ns mainGlobals mg) (A : FunAt K "are_within" s_are_within) (B : Bt mg) (C_is_within : Callee P w K mg base "is_within" 2 m_is_within) : Callee P w K mg base "are_within" 3 m_are_within := by
  obtain ⟨f, fd, a, F⟩ := A
  exact ⟨f, fd, ["thing", "least", "most"], ok_are_within F B C_is_within, PySem.W.mg_of X G a, F.kp, F.binds fun _ _ _ _ _ _ us hl => match us, hl with | [_, _, _], _ => rfl⟩
abbrev s_check_size : Stmt := topS 21
def m_check_size : List D → Res D := runF 1 1 (sIf (tNotF (tst (eFn (fun ds => noX (m_is_within ds)) (aCons (eV 0) (aCons (eC (.int 1)) (aCons (eC (.int 60)) aNil)))))) sStk sNil)
abbrev n_check_size : List Str := ["size"]
theorem sc_check_size : FnScope n_check_size ["size"] (defScope s_check_size) := ⟨rfl, rfl, rfl, by decide +kernel, rfl, by decide +kernel, by decide +kernel⟩
theorem ok_check_size {f : Addr} {fd : FuncData} (F : Fun K "check_size" "check_size" s_check_size f fd) (B : Bt mg) (C_is_within : Callee P w K mg base "is_within" 2 m_is_within) : FnOk P w K mg base CX0 3 f fd ["size"] (spD m_check_size) := by
  refine F.ok sc_check_size (fun vs H Q E h => spD_len h) (fun cdv A outer s H vs Q E hr h => ?_)
  have hu : (A.deeper (envOfC "check_size" (defScope s_check_size) s.heap.objs.size f cdv)).units + 64 < cLine := hr.units
  have hu1 : (A.deeper (envOfC "check_size" (defScope s_check_size) s.heap.objs.size f cdv)).units + 1 < cLine := hu_of hr
  have hu2 : (A.deeper (envOfC "check_size" (defScope s_check_size) s.heap.objs.size f cdv)).units + 65 < cLine := by have := hr.un; omega
  exact body_end (Nm := n_check_size) (n := 1) rfl (dss_one (ds_if (dt_not (dt_val (he := fun _ => rfl) (de_callC (hdb := by decide) (he := rfl) (hpl := rfl) C_is_within (hr.mono (by decide)) rfl (da_cons (hs := rfl) (de_v 0) (da_cons (hs := rfl) de_int (da_cons (hs := rfl) (de_globI rfl B.g_MOST_SIZE) da_nil)))))) (dss_one ds_never) dss_nil)) h
theorem cal_check_size {h : Heap} (X : K.In h) (G : h.Ns mainGlobals mg) (A : FunAt K "check_size" s_check_size) (B : Bt mg) (C_is_within : Callee P w K mg base "is_within" 2 m_is_within) : Callee P w K mg base "check_size" 3 m_check_size := by
  obtain ⟨f, fd, a, F⟩ := A
  exact ⟨f, fd, ["size"], ok_check_size F B C_is_within, PySem.W.mg_of X G a, F.kp, F.binds fun _ _ _ _ _ _ us hl => match us, hl with | [_], _ => rfl⟩
abbrev s_is_lamp : Stmt := topS 22
def m_is_lamp : List D → Res D := runF 2 2 (sRet (eAnd (eFn (fun ds => noX (m_is_tuple_of ds)) (aCons (eV 1) (aCons (eC (.int 2)) aNil))) (eAnd (eFn (fun ds => noX (m_is_within ds)) (aCons (e2 ixD (eV 1) (eC (.int 0))) (aCons (eC (.int 0)) (aCons (e2 subD (eV 0) (eC (.int 1))) aNil)))) (eFn (fun ds => noX (m_is_within ds)) (aCons (e2 ixD (eV 1) (eC (.int 1))) (aCons (eC (.int 1)) (aCons (eV 0) aNil)))))))
abbrev n_is_lamp : List Str := ["size", "thing"]
theorem sc_is_lamp : FnScope n_is_lamp ["size", "thing"] (defScope s_is_lamp) := ⟨rfl, rfl, rfl, by decide +kernel, rfl, by decide +kernel, by decide +kernel⟩
theorem ok_is_lamp {f : Addr} {fd : FuncData} (F : Fun K "is_lamp" "is_lamp" s_is_lamp f fd) (B : Bt mg) (C_is_tuple_of : Callee P w K mg base "is_tuple_of" 1 m_is_tuple_of) (C_is_within : Callee P w K mg base "is_within" 2 m_is_within) : FnOk P w K mg base CX0 3 f fd ["size", "thing"] (spD m_is_lamp) := by
  refine F.ok sc_is_lamp (fun vs H Q E h => spD_len h) (fun cdv A outer s H vs Q E hr h => ?_)
  have hu : (A.deeper (envOfC "is_lamp" (defScope s_is_lamp) s.heap.objs.size f cdv)).units + 64 < cLine := hr.units
  have hu1 : (A.deeper (envOfC "is_lamp" (defScope s_is_lamp) s.heap.objs.size f cdv)).units + 1 < cLine := hu_of hr
  have hu2 : (A.deeper (envOfC "is_lamp" (defScope s_is_lamp) s.heap.objs.size f cdv)).units + 65 < cLine := by have := hr.un; omega
  exact body_end (Nm := n_is_lamp) (n := 2) rfl (dss_one (ds_ret (de_and (de_callC (hdb := by decide) (he := rfl) (hpl := rfl) C_is_tuple_of (hr.mono (by decide)) rfl (da_cons (hs := rfl) (de_v 1) (da_cons (hs := rfl) de_int da_nil))) (de_and (de_callC (hdb := by decide) (he := rfl) (hpl := rfl) C_is_within (hr.mono (by decide)) rfl (da_cons (hs := rfl) (k_ix (hs := fun _ _ => rfl) (K := K) rfl (dq_of (de_v 1)) (dq_of de_int)) (da_cons (hs := rfl) de_int (da_cons (hs := rfl) (de_op o_sub nx_i2 (dq_of (de_v 0)) (dq_of de_int)) da_nil)))) (de_one (de_callC (hdb := by decide) (he := rfl) (hpl := rfl) C_is_within (hr.mono (by decide)) rfl (da_cons (hs := rfl) (k_ix (hs := fun _ _ => rfl) (K := K) rfl (dq_of (de_v 1)) (dq_of de_int)) (da_cons (hs := rfl) de_int (da_cons (hs := rfl) (de_v 0) da_nil))))))))) h
theorem cal_is_lamp {h : Heap} (X : K.In h) (G : h.Ns mainGlobals mg) (A : FunAt K "is_lamp" s_is_lamp) (B : Bt mg) (C_is_tuple_of : Callee P w K mg base "is_tuple_of" 1 m_is_tuple_of) (C_is_within : Callee P w K mg base "is_within" 2 m_is_within) : Callee P w K mg base "is_lamp" 3 m_is_lamp := by
  obtain ⟨f, fd, a, F⟩ := A
  exact ⟨f, fd, ["size", "thing"], ok_is_lamp F B C_is_tuple_of C_is_within, PySem.W.mg_of X G a, F.kp, F.binds fun _ _ _ _ _ _ us hl => match us, hl with | [_, _], _ => rfl⟩
abbrev s_raw_dark : Stmt := topS 27
def m_raw_dark : List D → Res D := runF 2 4 (sRet (eLc (iEnumA (eFn (fun ds => noX (m_counts_of ds)) (aCons (eV 0) (aCons (eV 1) aNil)))) [2, 3] (tgT (tgCons (tgN 2) (tgCons (tgN 3) tgNil))) (tst (e2 eqD (eV 3) (eC (.int 0)))) (eV 2)))
abbrev n_raw_dark : List Str := ["size", "lamps", "place", "many"]
theorem sc_raw_dark : FnScope n_raw_dark ["size", "lamps"] (defScope s_raw_dark) := ⟨rfl, rfl, rfl, by decide +kernel, rfl, by decide +kernel, by decide +kernel⟩
theorem ok_raw_dark {f : Addr} {fd : FuncData} (F : Fun K "raw_dark" "raw_dark" s_raw_dark f fd) (B : Bt mg) (C_counts_of : Callee P w K mg base "counts_of" 2 m_counts_of) : FnOk P w K mg base CX0 3 f fd ["size", "lamps"] (spD m_raw_dark) := by
  refine F.ok sc_raw_dark (fun vs H Q E h => spD_len h) (fun cdv A outer s H vs Q E hr h => ?_)
  have hu : (A.deeper (envOfC "raw_dark" (defScope s_raw_dark) s.heap.objs.size f cdv)).units + 64 < cLine := hr.units
  have hu1 : (A.deeper (envOfC "raw_dark" (defScope s_raw_dark) s.heap.objs.size f cdv)).units + 1 < cLine := hu_of hr
  have hu2 : (A.deeper (envOfC "raw_dark" (defScope s_raw_dark) s.heap.objs.size f cdv)).units + 65 < cLine := by have := hr.un; omega
  exact body_end (Nm := n_raw_dark) (n := 2) rfl (dss_one (ds_ret (de_of (dn_lc (hs := fun _ => rfl) rfl sc_raw_dark.nd (g := (gTup K 2 (gCons (gName 2) (gCons (gName 3) gNil)))) (dj_of (k_enumA (hs := rfl) (hs2 := rfl) (K := K) rfl rfl B.b_enumerate (de_callC (hdb := by decide) (he := rfl) (hpl := rfl) C_counts_of (hr.mono (by decide)) rfl (da_cons (hs := rfl) (de_v 0) (da_cons (hs := rfl) (de_v 1) da_nil))))) (blkOk_by (own := [("place", 2), ("many", 3)]) (N := n_raw_dark) (sc := defScope s_raw_dark) (by decide +kernel)) (fun _ _ _ _ _ => (gntK (K := K) rfl rfl (by rfl) (by rfl) (tl_cons (tl_cons tl_nil)) (gns (by rfl) (dgn_name (i := 2) sc_raw_dark.nd rfl (by first | exact .inl rfl | exact .inr rfl)) (gns (by rfl) (dgn_name (i := 3) sc_raw_dark.nd rfl (by first | exact .inl rfl | exact .inr rfl)) dgns_nil)))) (ng_t (ng_cons (ng_n 2) (ng_cons (ng_n 3) ng_nil))) (by decide) (fun _ _ _ _ _ => dts_one (dt_cmp (k_eq (K := K) rfl hu) nx_eq (dq_of (de_v 3)) (dq_of de_int) (nomark _))) (fun _ _ _ _ _ => (de_v 2)))))) h
theorem cal_raw_dark {h : Heap} (X : K.In h) (G : h.Ns mainGlobals mg) (A : FunAt K "raw_dark" s_raw_dark) (B : Bt mg) (C_counts_of : Callee P w K mg base "counts_of" 2 m_counts_of) : Callee P w K mg base "raw_dark" 3 m_raw_dark := by
  obtain ⟨f, fd, a, F⟩ := A
  exact ⟨f, fd, ["size", "lamps"], ok_raw_dark F B C_counts_of, PySem.W.mg_of X G a, F.kp, F.binds fun _ _ _ _ _ _ us hl => match us, hl with | [_, _], _ => rfl⟩
abbrev s_all_shines : Stmt := topS 55
def m_all_shines : List D → Res D := runF 1 4 (sSeq (sSetN 1 (eC (.dict [(.none, .none)]))) (sSeq (sFor (iSeq (eFn (fun ds => noX (m_all_lots ds)) (aCons (eCall lenD (aCons (eV 0) aNil)) aNil))) (tgN 2) (sSeq (sSet 3 (eFn (fun ds => noX (m_raw_shine ds)) (aCons (eV 0) (aCons (eV 2) aNil)))) (sIf (tst (eDin true (eV 3) (eVq 1))) (sDput 1 (eV 3) (eV 2)) sNil))) (sFz 1 (sRet (eV 1)))))
abbrev n_all_shines : List Str := ["switches", "found", "pressed", "shown"]
theorem sc_all_shines : FnScope n_all_shines ["switches"] (defScope s_all_shines) := ⟨rfl, rfl, rfl, by decide +kernel, rfl, by decide +kernel, by decide +kernel⟩
theorem ok_all_shines {f : Addr} {fd : FuncData} (F : Fun K "all_shines" "all_shines" s_all_shines f fd) (B : Bt mg) (C_all_lots : Callee P w K mg base "all_lots" 2 m_all_lots) (C_raw_shine : Callee P w K mg base "raw_shine" 1 m_raw_shine) : FnOk P w K mg base CX0 3 f fd ["switches"] (spD m_all_shines) := by
  refine F.ok sc_all_shines (fun vs H Q E h => spD_len h) (fun cdv A outer s H vs Q E hr h => ?_)
  have hu : (A.deeper (envOfC "all_shines" (defScope s_all_shines) s.heap.objs.size f cdv)).units + 64 < cLine := hr.units
  have hu1 : (A.deeper (envOfC "all_shines" (defScope s_all_shines) s.heap.objs.size f cdv)).units + 1 < cLine := hu_of hr
  have hu2 : (A.deeper (envOfC "all_shines" (defScope s_all_shines) s.heap.objs.size f cdv)).units + 65 < cLine := by have := hr.un; omega
  exact body_end (Nm := n_all_shines) (n := 1) rfl (dss_cons (ds_setN (hs := rfl) (hf := .inl rfl) (i := 1) sc_all_shines.nd rfl (by first | exact .inl rfl | exact .inr rfl) dn_newT) (dss_cons (ds_for (hs := fun _ => rfl) PassesOwn.never rfl (k_seq (K := K) rfl (de_callC (hdb := by decide) (he := rfl) (hpl := rfl) C_all_lots (hr.mono (by decide)) rfl (da_cons (hs := rfl) (de_callB (hn := by decide) (hdb := by decide) (he := rfl) (hpl := rfl) (k_len (K := K) rfl) nx_len rfl B.b_len (by decide +kernel) (db_cons (hs := rfl) (dq_of (de_v 0)) db_nil)) da_nil))) (dg_name (i := 2) sc_all_shines.nd rfl (by first | exact .inl rfl | exact .inr rfl)) (dss_cons (ds_set (hs := rfl) (hf := .inl rfl) (i := 3) sc_all_shines.nd rfl (by first | exact .inl rfl | exact .inr rfl) (de_callC (hdb := by decide) (he := rfl) (hpl := rfl) C_raw_shine (hr.mono (by decide)) rfl (da_cons (hs := rfl) (de_v 0) (da_cons (hs := rfl) (de_v 2) da_nil)))) (dss_one (ds_if (dt_dnin (h1 := by with_unfolding_all rfl) hu1 (dq_of (de_v 3)) (dq_v 1)) (dss_one (ds_dput (hN := rfl) (hvis := by first | exact Or.inl rfl | exact Or.inr (Or.inl rfl)) (hs := rfl) (hd := by decide) (hcd := by decide) hu1 1 (hk := (dq_of (de_v 3))) (hv := (de_v 2)))) dss_nil)))) (dss_one (ds_fz 1 (ds_ret (de_v 1)))))) h
theorem cal_all_shines {h : Heap} (X : K.In h) (G : h.Ns mainGlobals mg) (A : FunAt K "all_shines" s_all_shines) (B : Bt mg) (C_all_lots : Callee P w K mg base "all_lots" 2 m_all_lots) (C_raw_shine : Callee P w K mg base "raw_shine" 1 m_raw_shine) : Callee P w K mg base "all_shines" 3 m_all_shines := by
  obtain ⟨f, fd, a, F⟩ := A
  exact ⟨f, fd, ["switches"], ok_all_shines F B C_all_lots C_raw_shine, PySem.W.mg_of X G a, F.kp, F.binds fun _ _ _ _ _ _ us hl => match us, hl with | [_], _ => rfl⟩
abbrev s_least_bar : Stmt := topS 58
def m_least_bar : List D → Res D := runF 2 3 (sSeq (sFor (iSeq (eFn (fun ds => noX (m_all_lots ds)) (aCons (eC (.int 10)) aNil))) (tgN 2) (sIf (tst (eFn (fun ds => noX (m_does_bar ds)) (aCons (eV 0) (aCons (eV 1) (aCons (eV 2) aNil))))) (sRet (eV 2)) sNil)) (sRet (eC .none)))
abbrev n_least_bar : List Str := ["switches", "wanted", "lot"]
theorem sc_least_bar : FnScope n_least_bar ["switches", "wanted"] (defScope s_least_bar) := ⟨rfl, rfl, rfl, by decide +kernel, rfl, by decide +kernel, by decide +kernel⟩
theorem ok_least_bar {f : Addr} {fd : FuncData} (F : Fun K "least_bar" "least_bar" s_least_bar f fd) (B : Bt mg) (C_all_lots : Callee P w K mg base "all_lots" 2 m_all_lots) (C_does_bar : Callee P w K mg base "does_bar" 2 m_does_bar) : FnOk P w K mg base CX0 3 f fd ["switches", "wanted"] (spD m_least_bar) := by
  refine F.ok sc_least_bar (fun vs H Q E h => spD_len h) (fun cdv A outer s H vs Q E hr h => ?_)
  have hu : (A.deeper (envOfC "least_bar" (defScope s_least_bar) s.heap.objs.size f cdv)).units + 64 < cLine := hr.units
  have hu1 : (A.deeper (envOfC "least_bar" (defScope s_least_bar) s.heap.objs.size f cdv)).units + 1 < cLine := hu_of hr
  have hu2 : (A.deeper (envOfC "least_bar" (defScope s_least_bar) s.heap.objs.size f cdv)).units + 65 < cLine := by have := hr.un; omega
  exact body_end (Nm := n_least_bar) (n := 2) rfl (dss_cons (ds_for (hs := fun _ => rfl) PassesOwn.never rfl (k_seq (K := K) rfl (de_callC (hdb := by decide) (he := rfl) (hpl := rfl) C_all_lots (hr.mono (by decide)) rfl (da_cons (hs := rfl) (de_globI rfl B.g_LIGHTS) da_nil))) (dg_name (i := 2) sc_least_bar.nd rfl (by first | exact .inl rfl | exact .inr rfl)) (dss_one (ds_if (dt_val (he := fun _ => rfl) (de_callC (hdb := by decide) (he := rfl) (hpl := rfl) C_does_bar (hr.mono (by decide)) rfl (da_cons (hs := rfl) (de_v 0) (da_cons (hs := rfl) (de_v 1) (da_cons (hs := rfl) (de_v 2) da_nil))))) (dss_one (ds_ret (de_v 2))) dss_nil))) (dss_one (ds_ret de_non))) h
theorem cal_least_bar {h : Heap} (X : K.In h) (G : h.Ns mainGlobals mg) (A : FunAt K "least_bar" s_least_bar) (B : Bt mg) (C_all_lots : Callee P w K mg base "all_lots" 2 m_all_lots) (C_does_bar : Callee P w K mg base "does_bar" 2 m_does_bar) : Callee P w K mg base "least_bar" 3 m_least_bar := by
  obtain ⟨f, fd, a, F⟩ := A
  exact ⟨f, fd, ["switches", "wanted"], ok_least_bar F B C_all_lots C_does_bar, PySem.W.mg_of X G a, F.kp, F.binds fun _ _ _ _ _ _ us hl => match us, hl with | [_, _], _ => rfl⟩
abbrev s_is_lot : Stmt := topS 5
def m_is_lot : List D → Res D := runF 2 4 (sSeq (sIf (tNotF (tst (eFn (fun ds => noX (m_are_within ds)) (aCons (eV 0) (aCons (eC (.int 0)) (aCons (e2 subD (eV 1) (eC (.int 1))) aNil)))))) (sRet (eC (.bool false))) sNil) (sRet (eCall allD (aCons (eLc (iZipF (aCons (eV 0) (aCons (eSlice (eV 0) (oSome (eC (.int 1))) oNone) aNil))) [2, 3] (tgT (tgCons (tgN 2) (tgCons (tgN 3) tgNil))) tYesF (e2 ltD (eV 2) (eV 3))) aNil))))
abbrev n_is_lot : List Str := ["thing", "many", "one", "other"]
theorem sc_is_lot : FnScope n_is_lot ["thing", "many"] (defScope s_is_lot) := ⟨rfl, rfl, rfl, by decide +kernel, rfl, by decide +kernel, by decide +kernel⟩
theorem ok_is_lot {f : Addr} {fd : FuncData} (F : Fun K "is_lot" "is_lot" s_is_lot f fd) (B : Bt mg) (C_are_within : Callee P w K mg base "are_within" 3 m_are_within) : FnOk P w K mg base CX0 4 f fd ["thing", "many"] (spD m_is_lot) := by
  refine F.ok sc_is_lot (fun vs H Q E h => spD_len h) (fun cdv A outer s H vs Q E hr h => ?_)
  have hu : (A.deeper (envOfC "is_lot" (defScope s_is_lot) s.heap.objs.size f cdv)).units + 64 < cLine := hr.units
  have hu1 : (A.deeper (envOfC "is_lot" (defScope s_is_lot) s.heap.objs.size f cdv)).units + 1 < cLine := hu_of hr
  have hu2 : (A.deeper (envOfC "is_lot" (defScope s_is_lot) s.heap.objs.size f cdv)).units + 65 < cLine := by have := hr.un; omega
  exact body_end (Nm := n_is_lot) (n := 2) rfl (dss_cons (ds_if (dt_not (dt_val (he := fun _ => rfl) (de_callC (hdb := by decide) (he := rfl) (hpl := rfl) C_are_within (hr.mono (by decide)) rfl (da_cons (hs := rfl) (de_v 0) (da_cons (hs := rfl) de_int (da_cons (hs := rfl) (de_op o_sub nx_i2 (dq_of (de_v 1)) (dq_of de_int)) da_nil)))))) (dss_one (ds_ret de_bl)) dss_nil) (dss_one (ds_ret (de_callB (hn := by decide) (hdb := by decide) (he := rfl) (hpl := rfl) (k_all (K := K) rfl rfl) nx_all rfl B.b_all (by decide +kernel) (db_cons (hs := rfl) (dq_of (de_of (dn_lc (hs := fun _ => rfl) rfl sc_is_lot.nd (g := (gTup K 2 (gCons (gName 2) (gCons (gName 3) gNil)))) (dj_of (k_zip (hs := rfl) (hpl := rfl) (K := K) rfl rfl B.b_zip (da_cons (hs := rfl) (de_v 0) (da_cons (hs := rfl) (k_slice (K := K) rfl (dq_of (de_v 0)) (do_some (dq_of de_int)) do_none) da_nil)))) (blkOk_by (own := [("one", 2), ("other", 3)]) (N := n_is_lot) (sc := defScope s_is_lot) (by decide +kernel)) (fun _ _ _ _ _ => (gntK (K := K) rfl rfl (by rfl) (by rfl) (tl_cons (tl_cons tl_nil)) (gns (by rfl) (dgn_name (i := 2) sc_is_lot.nd rfl (by first | exact .inl rfl | exact .inr rfl)) (gns (by rfl) (dgn_name (i := 3) sc_is_lot.nd rfl (by first | exact .inl rfl | exact .inr rfl)) dgns_nil)))) (ng_t (ng_cons (ng_n 2) (ng_cons (ng_n 3) ng_nil))) (by decide) (fun _ _ _ _ _ => dts_nil) (fun _ _ _ _ _ => (de_cmp o_lt nx_c2 (dq_of (de_v 2)) (dq_of (de_v 3)) (nomark _)))))) db_nil))))) h
theorem cal_is_lot {h : Heap} (X : K.In h) (G : h.Ns mainGlobals mg) (A : FunAt K "is_lot" s_is_lot) (B : Bt mg) (C_are_within : Callee P w K mg base "are_within" 3 m_are_within) : Callee P w K mg base "is_lot" 4 m_is_lot := by
  obtain ⟨f, fd, a, F⟩ := A
  exact ⟨f, fd, ["thing", "many"], ok_is_lot F B C_are_within, PySem.W.mg_of X G a, F.kp, F.binds fun _ _ _ _ _ _ us hl => match us, hl with | [_, _], _ => rfl⟩
abbrev s_check_lamps : Stmt := topS 23
def m_check_lamps : List D → Res D := runF 2 3 (sSeq (sDrop (eFn (fun ds => noX (m_check_size ds)) (aCons (eV 0) aNil))) (sIf (tOrF (tNotF (tst (e1 (isiD' "tuple") (eV 1)))) (tOrF (tst (e2 gtD (eCall lenD (aCons (eV 1) aNil)) (eC (.int 12)))) (tNotF (tst (eCall allD (aCons (eLc (iSeq (eV 1)) [2] (tgN 2) tYesF (eFn (fun ds => noX (m_is_lamp ds)) (aCons (eV 0) (aCons (eV 2) aNil)))) aNil)))))) sStk sNil))
abbrev n_check_lamps : List Str := ["size", "lamps", "one"]
theorem sc_check_lamps : FnScope n_check_lamps ["size", "lamps"] (defScope s_check_lamps) := ⟨rfl, rfl, rfl, by decide +kernel, rfl, by decide +kernel, by decide +kernel⟩
theorem ok_check_lamps {f : Addr} {fd : FuncData} (F : Fun K "check_lamps" "check_lamps" s_check_lamps f fd) (B : Bt mg) (C_check_size : Callee P w K mg base "check_size" 3 m_check_size) (C_is_lamp : Callee P w K mg base "is_lamp" 3 m_is_lamp) : FnOk P w K mg base CX0 4 f fd ["size", "lamps"] (spD m_check_lamps) := by
  refine F.ok sc_check_lamps (fun vs H Q E h => spD_len h) (fun cdv A outer s H vs Q E hr h => ?_)
  have hu : (A.deeper (envOfC "check_lamps" (defScope s_check_lamps) s.heap.objs.size f cdv)).units + 64 < cLine := hr.units
  have hu1 : (A.deeper (envOfC "check_lamps" (defScope s_check_lamps) s.heap.objs.size f cdv)).units + 1 < cLine := hu_of hr
  have hu2 : (A.deeper (envOfC "check_lamps" (defScope s_check_lamps) s.heap.objs.size f cdv)).units + 65 < cLine := by have := hr.un; omega
  exact body_end (Nm := n_check_lamps) (n := 2) rfl (dss_cons (ds_expr (hs := rfl) (de_callC (hdb := by decide) (he := rfl) (hpl := rfl) C_check_size (hr.mono (by decide)) rfl (da_cons (hs := rfl) (de_v 0) da_nil))) (dss_one (ds_if (dt_of (dw_or (dt_not (dt_val (he := fun _ => rfl) (k_isi (hn2 := by decide) (hd2 := by decide) (s1 := rfl) (s2 := rfl) (hpl := rfl) (K := K) rfl rfl B.b_isinstance (by decide +kernel) rfl B.b_tuple (by decide +kernel) (dq_of (de_v 1))))) (dw_or (dt_cmp o_gt nx_c2 (dq_of (de_callB (hn := by decide) (hdb := by decide) (he := rfl) (hpl := rfl) (k_len (K := K) rfl) nx_len rfl B.b_len (by decide +kernel) (db_cons (hs := rfl) (dq_of (de_v 1)) db_nil))) (dq_of (de_globI rfl B.g_MOST_LAMPS)) (nomark _)) (dw_or1 (dt_not (dt_val (he := fun _ => rfl) (de_callB (hn := by decide) (hdb := by decide) (he := rfl) (hpl := rfl) (k_all (K := K) rfl rfl) nx_all rfl B.b_all (by decide +kernel) (db_cons (hs := rfl) (dq_of (de_of (dn_lc (hs := fun _ => rfl) rfl sc_check_lamps.nd (g := (gName 2)) (dj_of (k_seq (K := K) rfl (de_v 1))) (blkOk_by (own := [("one", 2)]) (N := n_check_lamps) (sc := defScope s_check_lamps) (by decide +kernel)) (fun _ _ _ _ _ => (dgn_name (i := 2) sc_check_lamps.nd rfl (by first | exact .inl rfl | exact .inr rfl))) (ng_n 2) (by decide) (fun _ _ _ _ _ => dts_nil) (fun _ _ _ _ _ => (de_callC (hdb := by decide) (he := rfl) (hpl := rfl) C_is_lamp (hr.mono (by decide)) rfl (da_cons (hs := rfl) (de_v 0) (da_cons (hs := rfl) (de_v 2) da_nil))))))) db_nil)))))))) (dss_one ds_never) dss_nil))) h
theorem cal_check_lamps {h : Heap} (X : K.In h) (G : h.Ns mainGlobals mg) (A : FunAt K "check_lamps" s_check_lamps) (B : Bt mg) (C_check_size : Callee P w K mg base "check_size" 3 m_check_size) (C_is_lamp : Callee P w K mg base "is_lamp" 3 m_is_lamp) : Callee P w K mg base "check_lamps" 4 m_check_lamps := by
  obtain ⟨f, fd, a, F⟩ := A
  exact ⟨f, fd, ["size", "lamps"], ok_check_lamps F B C_check_size C_is_lamp, PySem.W.mg_of X G a, F.kp, F.binds fun _ _ _ _ _ _ us hl => match us, hl with | [_, _], _ => rfl⟩
abbrev s_do_light : Stmt := topS 29
def m_do_light : List D → Res D := runF 3 4 (sRet (e2 eqD (eCall lenD (aCons (eFn (fun ds => noX (m_raw_dark ds)) (aCons (eV 0) (aCons (eLc (iSeq (eV 2)) [3] (tgN 3) tYesF (e2 ixD (eV 1) (eV 3))) aNil))) aNil)) (eC (.int 0))))
abbrev n_do_light : List Str := ["size", "lamps", "lot", "at"]
theorem sc_do_light : FnScope n_do_light ["size", "lamps", "lot"] (defScope s_do_light) := ⟨rfl, rfl, rfl, by decide +kernel, rfl, by decide +kernel, by decide +kernel⟩
theorem ok_do_light {f : Addr} {fd : FuncData} (F : Fun K "do_light" "do_light" s_do_light f fd) (B : Bt mg) (C_raw_dark : Callee P w K mg base "raw_dark" 3 m_raw_dark) : FnOk P w K mg base CX0 4 f fd ["size", "lamps", "lot"] (spD m_do_light) := by
  refine F.ok sc_do_light (fun vs H Q E h => spD_len h) (fun cdv A outer s H vs Q E hr h => ?_)
  have hu : (A.deeper (envOfC "do_light" (defScope s_do_light) s.heap.objs.size f cdv)).units + 64 < cLine := hr.units
  have hu1 : (A.deeper (envOfC "do_light" (defScope s_do_light) s.heap.objs.size f cdv)).units + 1 < cLine := hu_of hr
  have hu2 : (A.deeper (envOfC "do_light" (defScope s_do_light) s.heap.objs.size f cdv)).units + 65 < cLine := by have := hr.un; omega
  exact body_end (Nm := n_do_light) (n := 3) rfl (dss_one (ds_ret (de_cmp (k_eq (K := K) rfl hu) nx_eq (dq_of (de_callB (hn := by decide) (hdb := by decide) (he := rfl) (hpl := rfl) (k_len (K := K) rfl) nx_len rfl B.b_len (by decide +kernel) (db_cons (hs := rfl) (dq_of (de_callC (hdb := by decide) (he := rfl) (hpl := rfl) C_raw_dark (hr.mono (by decide)) rfl (da_cons (hs := rfl) (de_v 0) (da_cons (hs := rfl) (de_of (dn_lc (hs := fun _ => rfl) rfl sc_do_light.nd (g := (gName 3)) (dj_of (k_seq (K := K) rfl (de_v 2))) (blkOk_by (own := [("at", 3)]) (N := n_do_light) (sc := defScope s_do_light) (by decide +kernel)) (fun _ _ _ _ _ => (dgn_name (i := 3) sc_do_light.nd rfl (by first | exact .inl rfl | exact .inr rfl))) (ng_n 3) (by decide) (fun _ _ _ _ _ => dts_nil) (fun _ _ _ _ _ => (k_ix (hs := fun _ _ => rfl) (K := K) rfl (dq_of (de_v 1)) (dq_of (de_v 3)))))) da_nil)))) db_nil))) (dq_of de_int) (nomark _)))) h
theorem cal_do_light {h : Heap} (X : K.In h) (G : h.Ns mainGlobals mg) (A : FunAt K "do_light" s_do_light) (B : Bt mg) (C_raw_dark : Callee P w K mg base "raw_dark" 3 m_raw_dark) : Callee P w K mg base "do_light" 4 m_do_light := by
  obtain ⟨f, fd, a, F⟩ := A
  exact ⟨f, fd, ["size", "lamps", "lot"], ok_do_light F B C_raw_dark, PySem.W.mg_of X G a, F.kp, F.binds fun _ _ _ _ _ _ us hl => match us, hl with | [_, _, _], _ => rfl⟩
abbrev s_is_needless : Stmt := topS 34
def m_is_needless : List D → Res D := runF 3 4 (sSeq (sSet 3 (e2 addD (eSlice (eV 1) oNone (oSome (eV 2))) (eSlice (eV 1) (oSome (e2 addD (eV 2) (eC (.int 1)))) oNone))) (sRet (e2 eqD (eFn (fun ds => noX (m_raw_dark ds)) (aCons (eV 0) (aCons (eV 3) aNil))) (eFn (fun ds => noX (m_raw_dark ds)) (aCons (eV 0) (aCons (eV 1) aNil))))))
abbrev n_is_needless : List Str := ["size", "lamps", "at", "rest"]
theorem sc_is_needless : FnScope n_is_needless ["size", "lamps", "at"] (defScope s_is_needless) := ⟨rfl, rfl, rfl, by decide +kernel, rfl, by decide +kernel, by decide +kernel⟩
theorem ok_is_needless {f : Addr} {fd : FuncData} (F : Fun K "is_needless" "is_needless" s_is_needless f fd) (B : Bt mg) (C_raw_dark : Callee P w K mg base "raw_dark" 3 m_raw_dark) : FnOk P w K mg base CX0 4 f fd ["size", "lamps", "at"] (spD m_is_needless) := by
  refine F.ok sc_is_needless (fun vs H Q E h => spD_len h) (fun cdv A outer s H vs Q E hr h => ?_)
  have hu : (A.deeper (envOfC "is_needless" (defScope s_is_needless) s.heap.objs.size f cdv)).units + 64 < cLine := hr.units
  have hu1 : (A.deeper (envOfC "is_needless" (defScope s_is_needless) s.heap.objs.size f cdv)).units + 1 < cLine := hu_of hr
  have hu2 : (A.deeper (envOfC "is_needless" (defScope s_is_needless) s.heap.objs.size f cdv)).units + 65 < cLine := by have := hr.un; omega
  exact body_end (Nm := n_is_needless) (n := 3) rfl (dss_cons (ds_set (hs := rfl) (hf := .inl rfl) (i := 3) sc_is_needless.nd rfl (by first | exact .inl rfl | exact .inr rfl) (de_op (k_add (K := K) rfl) nx_add (dq_of (k_slice (K := K) rfl (dq_of (de_v 1)) do_none (do_some (dq_of (de_v 2))))) (dq_of (k_slice (K := K) rfl (dq_of (de_v 1)) (do_some (dq_of (de_op (k_add (K := K) rfl) nx_add (dq_of (de_v 2)) (dq_of de_int)))) do_none)))) (dss_one (ds_ret (de_cmp (k_eq (K := K) rfl hu) nx_eq (dq_of (de_callC (hdb := by decide) (he := rfl) (hpl := rfl) C_raw_dark (hr.mono (by decide)) rfl (da_cons (hs := rfl) (de_v 0) (da_cons (hs := rfl) (de_v 3) da_nil)))) (dq_of (de_callC (hdb := by decide) (he := rfl) (hpl := rfl) C_raw_dark (hr.mono (by decide)) rfl (da_cons (hs := rfl) (de_v 0) (da_cons (hs := rfl) (de_v 1) da_nil)))) (nomark _))))) h
theorem cal_is_needless {h : Heap} (X : K.In h) (G : h.Ns mainGlobals mg) (A : FunAt K "is_needless" s_is_needless) (B : Bt mg) (C_raw_dark : Callee P w K mg base "raw_dark" 3 m_raw_dark) : Callee P w K mg base "is_needless" 4 m_is_needless := by
  obtain ⟨f, fd, a, F⟩ := A
  exact ⟨f, fd, ["size", "lamps", "at"], ok_is_needless F B C_raw_dark, PySem.W.mg_of X G a, F.kp, F.binds fun _ _ _ _ _ _ us hl => match us, hl with | [_, _, _], _ => rfl⟩
abbrev s_check_horses : Stmt := topS 41
def m_check_horses : List D → Res D := runF 1 1 (sIf (tOrF (tNotF (tst (eFn (fun ds => noX (m_are_within ds)) (aCons (eV 0) (aCons (eC (.int 0)) (aCons (eC (.int 5)) aNil)))))) (tNotF (tst (eChain leD leD (eC (.int 1)) (eCall lenD (aCons (eV 0) aNil)) (eC (.int 10)))))) sStk sNil)
abbrev n_check_horses : List Str := ["thing"]
theorem sc_check_horses : FnScope n_check_horses ["thing"] (defScope s_check_horses) := ⟨rfl, rfl, rfl, by decide +kernel, rfl, by decide +kernel, by decide +kernel⟩
theorem ok_check_horses {f : Addr} {fd : FuncData} (F : Fun K "check_horses" "check_horses" s_check_horses f fd) (B : Bt mg) (C_are_within : Callee P w K mg base "are_within" 3 m_are_within) : FnOk P w K mg base CX0 4 f fd ["thing"] (spD m_check_horses) := by
  refine F.ok sc_check_horses (fun vs H Q E h => spD_len h) (fun cdv A outer s H vs Q E hr h => ?_)
  have hu : (A.deeper (envOfC "check_horses" (defScope s_check_horses) s.heap.objs.size f cdv)).units + 64 < cLine := hr.units
  have hu1 : (A.deeper (envOfC "check_horses" (defScope s_check_horses) s.heap.objs.size f cdv)).units + 1 < cLine := hu_of hr
  have hu2 : (A.deeper (envOfC "check_horses" (defScope s_check_horses) s.heap.objs.size f cdv)).units + 65 < cLine := by have := hr.un; omega
  exact body_end (Nm := n_check_horses) (n := 1) rfl (dss_one (ds_if (dt_of (dw_or (dt_not (dt_val (he := fun _ => rfl) (de_callC (hdb := by decide) (he := rfl) (hpl := rfl) C_are_within (hr.mono (by decide)) rfl (da_cons (hs := rfl) (de_v 0) (da_cons (hs := rfl) de_int (da_cons (hs := rfl) (de_globI rfl B.g_MOST_COLOUR) da_nil)))))) (dw_or1 (dt_not (dt_chain (hm := by with_unfolding_all rfl) o_le nx_c2 o_le nx_c2 (dq_of de_int) (dq_of (de_callB (hn := by decide) (hdb := by decide) (he := rfl) (hpl := rfl) (k_len (K := K) rfl) nx_len rfl B.b_len (by decide +kernel) (db_cons (hs := rfl) (dq_of (de_v 0)) db_nil))) (dq_of (de_globI rfl B.g_MOST_HORSES))))))) (dss_one ds_never) dss_nil)) h
theorem cal_check_horses {h : Heap} (X : K.In h) (G : h.Ns mainGlobals mg) (A : FunAt K "check_horses" s_check_horses) (B : Bt mg) (C_are_within : Callee P w K mg base "are_within" 3 m_are_within) : Callee P w K mg base "check_horses" 4 m_check_horses := by
  obtain ⟨f, fd, a, F⟩ := A
  exact ⟨f, fd, ["thing"], ok_check_horses F B C_are_within, PySem.W.mg_of X G a, F.kp, F.binds fun _ _ _ _ _ _ us hl => match us, hl with | [_], _ => rfl⟩
abbrev s_lit : Stmt := topS 26
def m_lit : List D → Res D := runF 2 4 (sSeq (sDrop (eFn (fun ds => noX (m_check_lamps ds)) (aCons (eV 0) (aCons (eV 1) aNil)))) (sRet (eCall tupleD (aCons (eLc (iEnumA (eFn (fun ds => noX (m_counts_of ds)) (aCons (eV 0) (aCons (eV 1) aNil)))) [2, 3] (tgT (tgCons (tgN 2) (tgCons (tgN 3) tgNil))) (tst (e2 gtD (eV 3) (eC (.int 0)))) (eV 2)) aNil))))
abbrev n_lit : List Str := ["size", "lamps", "place", "many"]
theorem sc_lit : FnScope n_lit ["size", "lamps"] (defScope s_lit) := ⟨rfl, rfl, rfl, by decide +kernel, rfl, by decide +kernel, by decide +kernel⟩
theorem ok_lit {f : Addr} {fd : FuncData} (F : Fun K "lit" "lit" s_lit f fd) (B : Bt mg) (C_check_lamps : Callee P w K mg base "check_lamps" 4 m_check_lamps) (C_counts_of : Callee P w K mg base "counts_of" 2 m_counts_of) : FnOk P w K mg base CX0 5 f fd ["size", "lamps"] (spD m_lit) := by
  refine F.ok sc_lit (fun vs H Q E h => spD_len h) (fun cdv A outer s H vs Q E hr h => ?_)
  have hu : (A.deeper (envOfC "lit" (defScope s_lit) s.heap.objs.size f cdv)).units + 64 < cLine := hr.units
  have hu1 : (A.deeper (envOfC "lit" (defScope s_lit) s.heap.objs.size f cdv)).units + 1 < cLine := hu_of hr
  have hu2 : (A.deeper (envOfC "lit" (defScope s_lit) s.heap.objs.size f cdv)).units + 65 < cLine := by have := hr.un; omega
  exact body_end (Nm := n_lit) (n := 2) rfl (dss_cons (ds_expr (hs := rfl) (de_callC (hdb := by decide) (he := rfl) (hpl := rfl) C_check_lamps (hr.mono (by decide)) rfl (da_cons (hs := rfl) (de_v 0) (da_cons (hs := rfl) (de_v 1) da_nil)))) (dss_one (ds_ret (de_callTy (hn := by decide) (hdb := by decide) (he := rfl) (hpl := rfl) (k_tuple (K := K) rfl) nx_tuple rfl B.b_tuple (by decide +kernel) (db_cons (hs := rfl) (dq_of (de_of (dn_lc (hs := fun _ => rfl) rfl sc_lit.nd (g := (gTup K 2 (gCons (gName 2) (gCons (gName 3) gNil)))) (dj_of (k_enumA (hs := rfl) (hs2 := rfl) (K := K) rfl rfl B.b_enumerate (de_callC (hdb := by decide) (he := rfl) (hpl := rfl) C_counts_of (hr.mono (by decide)) rfl (da_cons (hs := rfl) (de_v 0) (da_cons (hs := rfl) (de_v 1) da_nil))))) (blkOk_by (own := [("place", 2), ("many", 3)]) (N := n_lit) (sc := defScope s_lit) (by decide +kernel)) (fun _ _ _ _ _ => (gntK (K := K) rfl rfl (by rfl) (by rfl) (tl_cons (tl_cons tl_nil)) (gns (by rfl) (dgn_name (i := 2) sc_lit.nd rfl (by first | exact .inl rfl | exact .inr rfl)) (gns (by rfl) (dgn_name (i := 3) sc_lit.nd rfl (by first | exact .inl rfl | exact .inr rfl)) dgns_nil)))) (ng_t (ng_cons (ng_n 2) (ng_cons (ng_n 3) ng_nil))) (by decide) (fun _ _ _ _ _ => dts_one (dt_cmp o_gt nx_c2 (dq_of (de_v 3)) (dq_of de_int) (nomark _))) (fun _ _ _ _ _ => (de_v 2))))) db_nil))))) h
theorem cal_lit {h : Heap} (X : K.In h) (G : h.Ns mainGlobals mg) (A : FunAt K "lit" s_lit) (B : Bt mg) (C_check_lamps : Callee P w K mg base "check_lamps" 4 m_check_lamps) (C_counts_of : Callee P w K mg base "counts_of" 2 m_counts_of) : Callee P w K mg base "lit" 5 m_lit := by
  obtain ⟨f, fd, a, F⟩ := A
  exact ⟨f, fd, ["size", "lamps"], ok_lit F B C_check_lamps C_counts_of, PySem.W.mg_of X G a, F.kp, F.binds fun _ _ _ _ _ _ us hl => match us, hl with | [_, _], _ => rfl⟩
abbrev s_dark : Stmt := topS 28
def m_dark : List D → Res D := runF 2 3 (sSeq (sDrop (eFn (fun ds => noX (m_check_lamps ds)) (aCons (eV 0) (aCons (eV 1) aNil)))) (sSeq (sSet 2 (eFn (fun ds => noX (m_raw_dark ds)) (aCons (eV 0) (aCons (eV 1) aNil)))) (sRet (eIf (tst (e2 gtD (eCall lenD (aCons (eV 2) aNil)) (eC (.int 0)))) (e2 ixD (eV 2) (eC (.int 0))) (eC .none)))))
abbrev n_dark : List Str := ["size", "lamps", "some"]
theorem sc_dark : FnScope n_dark ["size", "lamps"] (defScope s_dark) := ⟨rfl, rfl, rfl, by decide +kernel, rfl, by decide +kernel, by decide +kernel⟩
theorem ok_dark {f : Addr} {fd : FuncData} (F : Fun K "dark" "dark" s_dark f fd) (B : Bt mg) (C_check_lamps : Callee P w K mg base "check_lamps" 4 m_check_lamps) (C_raw_dark : Callee P w K mg base "raw_dark" 3 m_raw_dark) : FnOk P w K mg base CX0 5 f fd ["size", "lamps"] (spD m_dark) := by
  refine F.ok sc_dark (fun vs H Q E h => spD_len h) (fun cdv A outer s H vs Q E hr h => ?_)
  have hu : (A.deeper (envOfC "dark" (defScope s_dark) s.heap.objs.size f cdv)).units + 64 < cLine := hr.units
  have hu1 : (A.deeper (envOfC "dark" (defScope s_dark) s.heap.objs.size f cdv)).units + 1 < cLine := hu_of hr
  have hu2 : (A.deeper (envOfC "dark" (defScope s_dark) s.heap.objs.size f cdv)).units + 65 < cLine := by have := hr.un; omega
  exact body_end (Nm := n_dark) (n := 2) rfl (dss_cons (ds_expr (hs := rfl) (de_callC (hdb := by decide) (he := rfl) (hpl := rfl) C_check_lamps (hr.mono (by decide)) rfl (da_cons (hs := rfl) (de_v 0) (da_cons (hs := rfl) (de_v 1) da_nil)))) (dss_cons (ds_set (hs := rfl) (hf := .inl rfl) (i := 2) sc_dark.nd rfl (by first | exact .inl rfl | exact .inr rfl) (de_callC (hdb := by decide) (he := rfl) (hpl := rfl) C_raw_dark (hr.mono (by decide)) rfl (da_cons (hs := rfl) (de_v 0) (da_cons (hs := rfl) (de_v 1) da_nil)))) (dss_one (ds_ret (de_if (dt_cmp o_gt nx_c2 (dq_of (de_callB (hn := by decide) (hdb := by decide) (he := rfl) (hpl := rfl) (k_len (K := K) rfl) nx_len rfl B.b_len (by decide +kernel) (db_cons (hs := rfl) (dq_of (de_v 2)) db_nil))) (dq_of de_int) (nomark _)) (k_ix (hs := fun _ _ => rfl) (K := K) rfl (dq_of (de_v 2)) (dq_of de_int)) de_non))))) h
theorem cal_dark {h : Heap} (X : K.In h) (G : h.Ns mainGlobals mg) (A : FunAt K "dark" s_dark) (B : Bt mg) (C_check_lamps : Callee P w K mg base "check_lamps" 4 m_check_lamps) (C_raw_dark : Callee P w K mg base "raw_dark" 3 m_raw_dark) : Callee P w K mg base "dark" 5 m_dark := by
  obtain ⟨f, fd, a, F⟩ := A
  exact ⟨f, fd, ["size", "lamps"], ok_dark F B C_check_lamps C_raw_dark, PySem.W.mg_of X G a, F.kp, F.binds fun _ _ _ _ _ _ us hl => match us, hl with | [_, _], _ => rfl⟩
abbrev s_fewest_lamps : Stmt := topS 30
def m_fewest_lamps : List D → Res D := runF 2 3 (sSeq (sDrop (eFn (fun ds => noX (m_check_lamps ds)) (aCons (eV 0) (aCons (eV 1) aNil)))) (sSeq (sIf (tst (e2 gtD (eCall lenD (aCons (eFn (fun ds => noX (m_raw_dark ds)) (aCons (eV 0) (aCons (eV 1) aNil))) aNil)) (eC (.int 0)))) (sRet (eC .none)) sNil) (sSeq (sFor (iSeq (eFn (fun ds => noX (m_all_lots ds)) (aCons (eCall lenD (aCons (eV 1) aNil)) aNil))) (tgN 2) (sIf (tst (eFn (fun ds => noX (m_do_light ds)) (aCons (eV 0) (aCons (eV 1) (aCons (eV 2) aNil))))) (sRet (eV 2)) sNil)) (sRet (eC .none)))))
abbrev n_fewest_lamps : List Str := ["size", "lamps", "lot"]
theorem sc_fewest_lamps : FnScope n_fewest_lamps ["size", "lamps"] (defScope s_fewest_lamps) := ⟨rfl, rfl, rfl, by decide +kernel, rfl, by decide +kernel, by decide +kernel⟩
theorem ok_fewest_lamps {f : Addr} {fd : FuncData} (F : Fun K "fewest_lamps" "fewest_lamps" s_fewest_lamps f fd) (B : Bt mg) (C_all_lots : Callee P w K mg base "all_lots" 2 m_all_lots) (C_check_lamps : Callee P w K mg base "check_lamps" 4 m_check_lamps) (C_do_light : Callee P w K mg base "do_light" 4 m_do_light) (C_raw_dark : Callee P w K mg base "raw_dark" 3 m_raw_dark) : FnOk P w K mg base CX0 5 f fd ["size", "lamps"] (spD m_fewest_lamps) := by
  refine F.ok sc_fewest_lamps (fun vs H Q E h => spD_len h) (fun cdv A outer s H vs Q E hr h => ?_)
  have hu : (A.deeper (envOfC "fewest_lamps" (defScope s_fewest_lamps) s.heap.objs.size f cdv)).units + 64 < cLine := hr.units
  have hu1 : (A.deeper (envOfC "fewest_lamps" (defScope s_fewest_lamps) s.heap.objs.size f cdv)).units + 1 < cLine := hu_of hr
  have hu2 : (A.deeper (envOfC "fewest_lamps" (defScope s_fewest_lamps) s.heap.objs.size f cdv)).units + 65 < cLine := by have := hr.un; omega
  exact body_end (Nm := n_fewest_lamps) (n := 2) rfl (dss_cons (ds_expr (hs := rfl) (de_callC (hdb := by decide) (he := rfl) (hpl := rfl) C_check_lamps (hr.mono (by decide)) rfl (da_cons (hs := rfl) (de_v 0) (da_cons (hs := rfl) (de_v 1) da_nil)))) (dss_cons (ds_if (dt_cmp o_gt nx_c2 (dq_of (de_callB (hn := by decide) (hdb := by decide) (he := rfl) (hpl := rfl) (k_len (K := K) rfl) nx_len rfl B.b_len (by decide +kernel) (db_cons (hs := rfl) (dq_of (de_callC (hdb := by decide) (he := rfl) (hpl := rfl) C_raw_dark (hr.mono (by decide)) rfl (da_cons (hs := rfl) (de_v 0) (da_cons (hs := rfl) (de_v 1) da_nil)))) db_nil))) (dq_of de_int) (nomark _)) (dss_one (ds_ret de_non)) dss_nil) (dss_cons (ds_for (hs := fun _ => rfl) PassesOwn.never rfl (k_seq (K := K) rfl (de_callC (hdb := by decide) (he := rfl) (hpl := rfl) C_all_lots (hr.mono (by decide)) rfl (da_cons (hs := rfl) (de_callB (hn := by decide) (hdb := by decide) (he := rfl) (hpl := rfl) (k_len (K := K) rfl) nx_len rfl B.b_len (by decide +kernel) (db_cons (hs := rfl) (dq_of (de_v 1)) db_nil)) da_nil))) (dg_name (i := 2) sc_fewest_lamps.nd rfl (by first | exact .inl rfl | exact .inr rfl)) (dss_one (ds_if (dt_val (he := fun _ => rfl) (de_callC (hdb := by decide) (he := rfl) (hpl := rfl) C_do_light (hr.mono (by decide)) rfl (da_cons (hs := rfl) (de_v 0) (da_cons (hs := rfl) (de_v 1) (da_cons (hs := rfl) (de_v 2) da_nil))))) (dss_one (ds_ret (de_v 2))) dss_nil))) (dss_one (ds_ret de_non))))) h
theorem cal_fewest_lamps {h : Heap} (X : K.In h) (G : h.Ns mainGlobals mg) (A : FunAt K "fewest_lamps" s_fewest_lamps) (B : Bt mg) (C_all_lots : Callee P w K mg base "all_lots" 2 m_all_lots) (C_check_lamps : Callee P w K mg base "check_lamps" 4 m_check_lamps) (C_do_light : Callee P w K mg base "do_light" 4 m_do_light) (C_raw_dark : Callee P w K mg base "raw_dark" 3 m_raw_dark) : Callee P w K mg base "fewest_lamps" 5 m_fewest_lamps := by
  obtain ⟨f, fd, a, F⟩ := A
  exact ⟨f, fd, ["size", "lamps"], ok_fewest_lamps F B C_all_lots C_check_lamps C_do_light C_raw_dark, PySem.W.mg_of X G a, F.kp, F.binds fun _ _ _ _ _ _ us hl => match us, hl with | [_, _], _ => rfl⟩
abbrev s_is_lighting : Stmt := topS 31
def m_is_lighting : List D → Res D := runF 3 3 (sSeq (sDrop (eFn (fun ds => noX (m_check_lamps ds)) (aCons (eV 0) (aCons (eV 1) aNil)))) (sRet (eAnd (eFn (fun ds => noX (m_is_lot ds)) (aCons (eV 2) (aCons (eCall lenD (aCons (eV 1) aNil)) aNil))) (eFn (fun ds => noX (m_do_light ds)) (aCons (eV 0) (aCons (eV 1) (aCons (eV 2) aNil)))))))
abbrev n_is_lighting : List Str := ["size", "lamps", "thing"]
theorem sc_is_lighting : FnScope n_is_lighting ["size", "lamps", "thing"] (defScope s_is_lighting) := ⟨rfl, rfl, rfl, by decide +kernel, rfl, by decide +kernel, by decide +kernel⟩
theorem ok_is_lighting {f : Addr} {fd : FuncData} (F : Fun K "is_lighting" "is_lighting" s_is_lighting f fd) (B : Bt mg) (C_check_lamps : Callee P w K mg base "check_lamps" 4 m_check_lamps) (C_do_light : Callee P w K mg base "do_light" 4 m_do_light) (C_is_lot : Callee P w K mg base "is_lot" 4 m_is_lot) : FnOk P w K mg base CX0 5 f fd ["size", "lamps", "thing"] (spD m_is_lighting) := by
  refine F.ok sc_is_lighting (fun vs H Q E h => spD_len h) (fun cdv A outer s H vs Q E hr h => ?_)
  have hu : (A.deeper (envOfC "is_lighting" (defScope s_is_lighting) s.heap.objs.size f cdv)).units + 64 < cLine := hr.units
  have hu1 : (A.deeper (envOfC "is_lighting" (defScope s_is_lighting) s.heap.objs.size f cdv)).units + 1 < cLine := hu_of hr
  have hu2 : (A.deeper (envOfC "is_lighting" (defScope s_is_lighting) s.heap.objs.size f cdv)).units + 65 < cLine := by have := hr.un; omega
  exact body_end (Nm := n_is_lighting) (n := 3) rfl (dss_cons (ds_expr (hs := rfl) (de_callC (hdb := by decide) (he := rfl) (hpl := rfl) C_check_lamps (hr.mono (by decide)) rfl (da_cons (hs := rfl) (de_v 0) (da_cons (hs := rfl) (de_v 1) da_nil)))) (dss_one (ds_ret (de_and (de_callC (hdb := by decide) (he := rfl) (hpl := rfl) C_is_lot (hr.mono (by decide)) rfl (da_cons (hs := rfl) (de_v 2) (da_cons (hs := rfl) (de_callB (hn := by decide) (hdb := by decide) (he := rfl) (hpl := rfl) (k_len (K := K) rfl) nx_len rfl B.b_len (by decide +kernel) (db_cons (hs := rfl) (dq_of (de_v 1)) db_nil)) da_nil))) (de_one (de_callC (hdb := by decide) (he := rfl) (hpl := rfl) C_do_light (hr.mono (by decide)) rfl (da_cons (hs := rfl) (de_v 0) (da_cons (hs := rfl) (de_v 1) (da_cons (hs := rfl) (de_v 2) da_nil))))))))) h
theorem cal_is_lighting {h : Heap} (X : K.In h) (G : h.Ns mainGlobals mg) (A : FunAt K "is_lighting" s_is_lighting) (B : Bt mg) (C_check_lamps : Callee P w K mg base "check_lamps" 4 m_check_lamps) (C_do_light : Callee P w K mg base "do_light" 4 m_do_light) (C_is_lot : Callee P w K mg base "is_lot" 4 m_is_lot) : Callee P w K mg base "is_lighting" 5 m_is_lighting := by
  obtain ⟨f, fd, a, F⟩ := A
  exact ⟨f, fd, ["size", "lamps", "thing"], ok_is_lighting F B C_check_lamps C_do_light C_is_lot, PySem.W.mg_of X G a, F.kp, F.binds fun _ _ _ _ _ _ us hl => match us, hl with | [_, _, _], _ => rfl⟩
abbrev s_dark_stretch : Stmt := topS 33
def m_dark_stretch : List D → Res D := runF 2 6 (sSeq (sDrop (eFn (fun ds => noX (m_check_lamps ds)) (aCons (eV 0) (aCons (eV 1) aNil)))) (sSeq (sPar 2 3 (mFr (eFn (fun ds => noX (m_raw_dark ds)) (aCons (eV 0) (aCons (eV 1) aNil))) (mFr (eC .none) mNil))) (sSeq (sFor (iSeq (eV 2)) (tgN 4) (sSeq (sSet 5 (eFn (fun ds => noX (m_stretch_from ds)) (aCons (eV 0) (aCons (eV 2) (aCons (eV 4) aNil))))) (sIf (tOrF (tst (e2 isD (eV 3) (eC .none))) (tst (e2 gtD (eV 5) (e2 ixD (eV 3) (eC (.int 1)))))) (sSet 3 (eTup (aCons (eV 4) (aCons (eV 5) aNil)))) sNil))) (sRet (eV 3)))))
abbrev n_dark_stretch : List Str := ["size", "lamps", "some", "best", "place", "many"]
theorem sc_dark_stretch : FnScope n_dark_stretch ["size", "lamps"] (defScope s_dark_stretch) := ⟨rfl, rfl, rfl, by decide +kernel, rfl, by decide +kernel, by decide +kernel⟩
theorem ok_dark_stretch {f : Addr} {fd : FuncData} (F : Fun K "dark_stretch" "dark_stretch" s_dark_stretch f fd) (B : Bt mg) (C_check_lamps : Callee P w K mg base "check_lamps" 4 m_check_lamps) (C_raw_dark : Callee P w K mg base "raw_dark" 3 m_raw_dark) (C_stretch_from : Callee P w K mg base "stretch_from" 1 m_stretch_from) : FnOk P w K mg base CX0 5 f fd ["size", "lamps"] (spD m_dark_stretch) := by
  refine F.ok sc_dark_stretch (fun vs H Q E h => spD_len h) (fun cdv A outer s H vs Q E hr h => ?_)
  have hu : (A.deeper (envOfC "dark_stretch" (defScope s_dark_stretch) s.heap.objs.size f cdv)).units + 64 < cLine := hr.units
  have hu1 : (A.deeper (envOfC "dark_stretch" (defScope s_dark_stretch) s.heap.objs.size f cdv)).units + 1 < cLine := hu_of hr
  have hu2 : (A.deeper (envOfC "dark_stretch" (defScope s_dark_stretch) s.heap.objs.size f cdv)).units + 65 < cLine := by have := hr.un; omega
  exact body_end (Nm := n_dark_stretch) (n := 2) rfl (dss_cons (ds_expr (hs := rfl) (de_callC (hdb := by decide) (he := rfl) (hpl := rfl) C_check_lamps (hr.mono (by decide)) rfl (da_cons (hs := rfl) (de_v 0) (da_cons (hs := rfl) (de_v 1) da_nil)))) (dss_cons (ds_par (hs := rfl) (i := 2) (j := 3) rfl sc_dark_stretch.nd rfl rfl (by decide) rfl rfl (dm_fr (hs := rfl) (de_callC (hdb := by decide) (he := rfl) (hpl := rfl) C_raw_dark (hr.mono (by decide)) rfl (da_cons (hs := rfl) (de_v 0) (da_cons (hs := rfl) (de_v 1) da_nil))) (dm_fr (hs := rfl) de_non dm_nil)) (by rfl)) (dss_cons (ds_for (hs := fun _ => rfl) PassesOwn.never rfl (k_seq (K := K) rfl (de_v 2)) (dg_name (i := 4) sc_dark_stretch.nd rfl (by first | exact .inl rfl | exact .inr rfl)) (dss_cons (ds_set (hs := rfl) (hf := .inl rfl) (i := 5) sc_dark_stretch.nd rfl (by first | exact .inl rfl | exact .inr rfl) (de_callC (hdb := by decide) (he := rfl) (hpl := rfl) C_stretch_from (hr.mono (by decide)) rfl (da_cons (hs := rfl) (de_v 0) (da_cons (hs := rfl) (de_v 2) (da_cons (hs := rfl) (de_v 4) da_nil))))) (dss_one (ds_if (dt_of (dw_or (dt_cmp o_is nx_is (dq_of (de_v 3)) (dq_of de_non) (nomark _)) (dw_or1 (dt_cmp o_gt nx_c2 (dq_of (de_v 5)) (dq_of (k_ix (hs := fun _ _ => rfl) (K := K) rfl (dq_of (de_v 3)) (dq_of de_int))) (nomark _))))) (dss_one (ds_set (hs := rfl) (hf := .inl rfl) (i := 3) sc_dark_stretch.nd rfl (by first | exact .inl rfl | exact .inr rfl) (de_tup (da_cons (hs := rfl) (de_v 4) (da_cons (hs := rfl) (de_v 5) da_nil))))) dss_nil)))) (dss_one (ds_ret (de_v 3)))))) h
theorem cal_dark_stretch {h : Heap} (X : K.In h) (G : h.Ns mainGlobals mg) (A : FunAt K "dark_stretch" s_dark_stretch) (B : Bt mg) (C_check_lamps : Callee P w K mg base "check_lamps" 4 m_check_lamps) (C_raw_dark : Callee P w K mg base "raw_dark" 3 m_raw_dark) (C_stretch_from : Callee P w K mg base "stretch_from" 1 m_stretch_from) : Callee P w K mg base "dark_stretch" 5 m_dark_stretch := by
  obtain ⟨f, fd, a, F⟩ := A
  exact ⟨f, fd, ["size", "lamps"], ok_dark_stretch F B C_check_lamps C_raw_dark C_stretch_from, PySem.W.mg_of X G a, F.kp, F.binds fun _ _ _ _ _ _ us hl => match us, hl with | [_, _], _ => rfl⟩
abbrev s_needless : Stmt := topS 35
def m_needless : List D → Res D := runF 2 3 (sSeq (sDrop (eFn (fun ds => noX (m_check_lamps ds)) (aCons (eV 0) (aCons (eV 1) aNil)))) (sRet (eCall tupleD (aCons (eLc (iRg1 (aCons (eCall lenD (aCons (eV 1) aNil)) aNil)) [2] (tgN 2) (tst (eFn (fun ds => noX (m_is_needless ds)) (aCons (eV 0) (aCons (eV 1) (aCons (eV 2) aNil))))) (eV 2)) aNil))))
abbrev n_needless : List Str := ["size", "lamps", "at"]
theorem sc_needless : FnScope n_needless ["size", "lamps"] (defScope s_needless) := ⟨rfl, rfl, rfl, by decide +kernel, rfl, by decide +kernel, by decide +kernel⟩
theorem ok_needless {f : Addr} {fd : FuncData} (F : Fun K "needless" "needless" s_needless f fd) (B : Bt mg) (C_check_lamps : Callee P w K mg base "check_lamps" 4 m_check_lamps) (C_is_needless : Callee P w K mg base "is_needless" 4 m_is_needless) : FnOk P w K mg base CX0 5 f fd ["size", "lamps"] (spD m_needless) := by
  refine F.ok sc_needless (fun vs H Q E h => spD_len h) (fun cdv A outer s H vs Q E hr h => ?_)
  have hu : (A.deeper (envOfC "needless" (defScope s_needless) s.heap.objs.size f cdv)).units + 64 < cLine := hr.units
  have hu1 : (A.deeper (envOfC "needless" (defScope s_needless) s.heap.objs.size f cdv)).units + 1 < cLine := hu_of hr
  have hu2 : (A.deeper (envOfC "needless" (defScope s_needless) s.heap.objs.size f cdv)).units + 65 < cLine := by have := hr.un; omega
  exact body_end (Nm := n_needless) (n := 2) rfl (dss_cons (ds_expr (hs := rfl) (de_callC (hdb := by decide) (he := rfl) (hpl := rfl) C_check_lamps (hr.mono (by decide)) rfl (da_cons (hs := rfl) (de_v 0) (da_cons (hs := rfl) (de_v 1) da_nil)))) (dss_one (ds_ret (de_callTy (hn := by decide) (hdb := by decide) (he := rfl) (hpl := rfl) (k_tuple (K := K) rfl) nx_tuple rfl B.b_tuple (by decide +kernel) (db_cons (hs := rfl) (dq_of (de_of (dn_lc (hs := fun _ => rfl) rfl sc_needless.nd (g := (gName 2)) (dj_of (di_range1 (hs := rfl) rfl B.b_range (db_cons (hs := rfl) (dq_of (de_callB (hn := by decide) (hdb := by decide) (he := rfl) (hpl := rfl) (k_len (K := K) rfl) nx_len rfl B.b_len (by decide +kernel) (db_cons (hs := rfl) (dq_of (de_v 1)) db_nil))) db_nil))) (blkOk_by (own := [("at", 2)]) (N := n_needless) (sc := defScope s_needless) (by decide +kernel)) (fun _ _ _ _ _ => (dgn_name (i := 2) sc_needless.nd rfl (by first | exact .inl rfl | exact .inr rfl))) (ng_n 2) (by decide) (fun _ _ _ _ _ => dts_one (dt_val (he := fun _ => rfl) (de_callC (hdb := by decide) (he := rfl) (hpl := rfl) C_is_needless (hr.mono (by decide)) rfl (da_cons (hs := rfl) (de_v 0) (da_cons (hs := rfl) (de_v 1) (da_cons (hs := rfl) (de_v 2) da_nil)))))) (fun _ _ _ _ _ => (de_v 2))))) db_nil))))) h
theorem cal_needless {h : Heap} (X : K.In h) (G : h.Ns mainGlobals mg) (A : FunAt K "needless" s_needless) (B : Bt mg) (C_check_lamps : Callee P w K mg base "check_lamps" 4 m_check_lamps) (C_is_needless : Callee P w K mg base "is_needless" 4 m_is_needless) : Callee P w K mg base "needless" 5 m_needless := by
  obtain ⟨f, fd, a, F⟩ := A
  exact ⟨f, fd, ["size", "lamps"], ok_needless F B C_check_lamps C_is_needless, PySem.W.mg_of X G a, F.kp, F.binds fun _ _ _ _ _ _ us hl => match us, hl with | [_, _], _ => rfl⟩
abbrev s_brightest : Stmt := topS 36
def m_brightest : List D → Res D := runF 2 4 (sSeq (sDrop (eFn (fun ds => noX (m_check_lamps ds)) (aCons (eV 0) (aCons (eV 1) aNil)))) (sSeq (sSet 2 (eFn (fun ds => noX (m_counts_of ds)) (aCons (eV 0) (aCons (eV 1) aNil)))) (sSeq (sSet 3 (eCall maxD1 (aCons (eV 2) aNil))) (sRet (eTup (aCons (eIndex (eV 2) (eV 3)) (aCons (eV 3) aNil)))))))
abbrev n_brightest : List Str := ["size", "lamps", "counts", "most"]
theorem sc_brightest : FnScope n_brightest ["size", "lamps"] (defScope s_brightest) := ⟨rfl, rfl, rfl, by decide +kernel, rfl, by decide +kernel, by decide +kernel⟩
theorem ok_brightest {f : Addr} {fd : FuncData} (F : Fun K "brightest" "brightest" s_brightest f fd) (B : Bt mg) (C_check_lamps : Callee P w K mg base "check_lamps" 4 m_check_lamps) (C_counts_of : Callee P w K mg base "counts_of" 2 m_counts_of) : FnOk P w K mg base CX0 5 f fd ["size", "lamps"] (spD m_brightest) := by
  refine F.ok sc_brightest (fun vs H Q E h => spD_len h) (fun cdv A outer s H vs Q E hr h => ?_)
  have hu : (A.deeper (envOfC "brightest" (defScope s_brightest) s.heap.objs.size f cdv)).units + 64 < cLine := hr.units
  have hu1 : (A.deeper (envOfC "brightest" (defScope s_brightest) s.heap.objs.size f cdv)).units + 1 < cLine := hu_of hr
  have hu2 : (A.deeper (envOfC "brightest" (defScope s_brightest) s.heap.objs.size f cdv)).units + 65 < cLine := by have := hr.un; omega
  exact body_end (Nm := n_brightest) (n := 2) rfl (dss_cons (ds_expr (hs := rfl) (de_callC (hdb := by decide) (he := rfl) (hpl := rfl) C_check_lamps (hr.mono (by decide)) rfl (da_cons (hs := rfl) (de_v 0) (da_cons (hs := rfl) (de_v 1) da_nil)))) (dss_cons (ds_set (hs := rfl) (hf := .inl rfl) (i := 2) sc_brightest.nd rfl (by first | exact .inl rfl | exact .inr rfl) (de_callC (hdb := by decide) (he := rfl) (hpl := rfl) C_counts_of (hr.mono (by decide)) rfl (da_cons (hs := rfl) (de_v 0) (da_cons (hs := rfl) (de_v 1) da_nil)))) (dss_cons (ds_set (hs := rfl) (hf := .inl rfl) (i := 3) sc_brightest.nd rfl (by first | exact .inl rfl | exact .inr rfl) (de_callB (hn := by decide) (hdb := by decide) (he := rfl) (hpl := rfl) (k_max1 (K := K) rfl rfl) nx_max1 rfl B.b_max (by decide +kernel) (db_cons (hs := rfl) (dq_of (de_v 2)) db_nil))) (dss_one (ds_ret (de_tup (da_cons (hs := rfl) (k_index (hbs := rfl) (hf := rfl) (hl := rfl) (hs := rfl) (hp := rfl) (K := K) rfl hu hu2 (dq_of (de_v 2)) (dq_of (de_v 3))) (da_cons (hs := rfl) (de_v 3) da_nil)))))))) h
theorem cal_brightest {h : Heap} (X : K.In h) (G : h.Ns mainGlobals mg) (A : FunAt K "brightest" s_brightest) (B : Bt mg) (C_check_lamps : Callee P w K mg base "check_lamps" 4 m_check_lamps) (C_counts_of : Callee P w K mg base "counts_of" 2 m_counts_of) : Callee P w K mg base "brightest" 5 m_brightest := by
  obtain ⟨f, fd, a, F⟩ := A
  exact ⟨f, fd, ["size", "lamps"], ok_brightest F B C_check_lamps C_counts_of, PySem.W.mg_of X G a, F.kp, F.binds fun _ _ _ _ _ _ us hl => match us, hl with | [_, _], _ => rfl⟩
abbrev s_turned_lamps : Stmt := topS 37
def m_turned_lamps : List D → Res D := runF 3 5 (sSeq (sDrop (eFn (fun ds => noX (m_check_lamps ds)) (aCons (eV 0) (aCons (eV 1) aNil)))) (sSeq (sIf (tNotF (tst (eFn (fun ds => noX (m_is_within ds)) (aCons (eV 2) (aCons (eC (.int 0)) (aCons (e2 subD (eV 0) (eC (.int 1))) aNil)))))) sStk sNil) (sRet (eCall tupleD (aCons (eLc (iSeq (eV 1)) [3, 4] (tgT (tgCons (tgN 3) (tgCons (tgN 4) tgNil))) tYesF (eTup (aCons (e2 modD (e2 addD (eV 3) (eV 2)) (eV 0)) (aCons (eV 4) aNil)))) aNil)))))
abbrev n_turned_lamps : List Str := ["size", "lamps", "by", "begin", "many"]
theorem sc_turned_lamps : FnScope n_turned_lamps ["size", "lamps", "by"] (defScope s_turned_lamps) := ⟨rfl, rfl, rfl, by decide +kernel, rfl, by decide +kernel, by decide +kernel⟩
theorem ok_turned_lamps {f : Addr} {fd : FuncData} (F : Fun K "turned_lamps" "turned_lamps" s_turned_lamps f fd) (B : Bt mg) (C_check_lamps : Callee P w K mg base "check_lamps" 4 m_check_lamps) (C_is_within : Callee P w K mg base "is_within" 2 m_is_within) : FnOk P w K mg base CX0 5 f fd ["size", "lamps", "by"] (spD m_turned_lamps) := by
  refine F.ok sc_turned_lamps (fun vs H Q E h => spD_len h) (fun cdv A outer s H vs Q E hr h => ?_)
  have hu : (A.deeper (envOfC "turned_lamps" (defScope s_turned_lamps) s.heap.objs.size f cdv)).units + 64 < cLine := hr.units
  have hu1 : (A.deeper (envOfC "turned_lamps" (defScope s_turned_lamps) s.heap.objs.size f cdv)).units + 1 < cLine := hu_of hr
  have hu2 : (A.deeper (envOfC "turned_lamps" (defScope s_turned_lamps) s.heap.objs.size f cdv)).units + 65 < cLine := by have := hr.un; omega
  exact body_end (Nm := n_turned_lamps) (n := 3) rfl (dss_cons (ds_expr (hs := rfl) (de_callC (hdb := by decide) (he := rfl) (hpl := rfl) C_check_lamps (hr.mono (by decide)) rfl (da_cons (hs := rfl) (de_v 0) (da_cons (hs := rfl) (de_v 1) da_nil)))) (dss_cons (ds_if (dt_not (dt_val (he := fun _ => rfl) (de_callC (hdb := by decide) (he := rfl) (hpl := rfl) C_is_within (hr.mono (by decide)) rfl (da_cons (hs := rfl) (de_v 2) (da_cons (hs := rfl) de_int (da_cons (hs := rfl) (de_op o_sub nx_i2 (dq_of (de_v 0)) (dq_of de_int)) da_nil)))))) (dss_one ds_never) dss_nil) (dss_one (ds_ret (de_callTy (hn := by decide) (hdb := by decide) (he := rfl) (hpl := rfl) (k_tuple (K := K) rfl) nx_tuple rfl B.b_tuple (by decide +kernel) (db_cons (hs := rfl) (dq_of (de_of (dn_lc (hs := fun _ => rfl) rfl sc_turned_lamps.nd (g := (gTup K 2 (gCons (gName 3) (gCons (gName 4) gNil)))) (dj_of (k_seq (K := K) rfl (de_v 1))) (blkOk_by (own := [("begin", 3), ("many", 4)]) (N := n_turned_lamps) (sc := defScope s_turned_lamps) (by decide +kernel)) (fun _ _ _ _ _ => (gntK (K := K) rfl rfl (by rfl) (by rfl) (tl_cons (tl_cons tl_nil)) (gns (by rfl) (dgn_name (i := 3) sc_turned_lamps.nd rfl (by first | exact .inl rfl | exact .inr rfl)) (gns (by rfl) (dgn_name (i := 4) sc_turned_lamps.nd rfl (by first | exact .inl rfl | exact .inr rfl)) dgns_nil)))) (ng_t (ng_cons (ng_n 3) (ng_cons (ng_n 4) ng_nil))) (by decide) (fun _ _ _ _ _ => dts_nil) (fun _ _ _ _ _ => (de_tup (da_cons (hs := rfl) (de_op o_mod nx_mod (dq_of (de_op (k_add (K := K) rfl) nx_add (dq_of (de_v 3)) (dq_of (de_v 2)))) (dq_of (de_v 0))) (da_cons (hs := rfl) (de_v 4) da_nil))))))) db_nil)))))) h
theorem cal_turned_lamps {h : Heap} (X : K.In h) (G : h.Ns mainGlobals mg) (A : FunAt K "turned_lamps" s_turned_lamps) (B : Bt mg) (C_check_lamps : Callee P w K mg base "check_lamps" 4 m_check_lamps) (C_is_within : Callee P w K mg base "is_within" 2 m_is_within) : Callee P w K mg base "turned_lamps" 5 m_turned_lamps := by
  obtain ⟨f, fd, a, F⟩ := A
  exact ⟨f, fd, ["size", "lamps", "by"], ok_turned_lamps F B C_check_lamps C_is_within, PySem.W.mg_of X G a, F.kp, F.binds fun _ _ _ _ _ _ us hl => match us, hl with | [_, _, _], _ => rfl⟩
abbrev s_runs : Stmt := topS 44
def m_runs : List D → Res D := runF 1 2 (sSeq (sDrop (eFn (fun ds => noX (m_check_horses ds)) (aCons (eV 0) aNil))) (sSeq (sSet 1 (eFn (fun ds => noX (m_begins_of ds)) (aCons (eV 0) aNil))) (sRet (eIf (tst (e2 gtD (eCall lenD (aCons (eV 1) aNil)) (eC (.int 0)))) (eCall tupleD (aCons (eFn (fun ds => noX (m_ways_round ds)) (aCons (eV 1) (aCons (eCall lenD (aCons (eV 0) aNil)) aNil))) aNil)) (eTup (aCons (eCall lenD (aCons (eV 0) aNil)) aNil))))))
abbrev n_runs : List Str := ["horses", "places"]
theorem sc_runs : FnScope n_runs ["horses"] (defScope s_runs) := ⟨rfl, rfl, rfl, by decide +kernel, rfl, by decide +kernel, by decide +kernel⟩
theorem ok_runs {f : Addr} {fd : FuncData} (F : Fun K "runs" "runs" s_runs f fd) (B : Bt mg) (C_begins_of : Callee P w K mg base "begins_of" 1 m_begins_of) (C_check_horses : Callee P w K mg base "check_horses" 4 m_check_horses) (C_ways_round : Callee P w K mg base "ways_round" 1 m_ways_round) : FnOk P w K mg base CX0 5 f fd ["horses"] (spD m_runs) := by
  refine F.ok sc_runs (fun vs H Q E h => spD_len h) (fun cdv A outer s H vs Q E hr h => ?_)
  have hu : (A.deeper (envOfC "runs" (defScope s_runs) s.heap.objs.size f cdv)).units + 64 < cLine := hr.units
  have hu1 : (A.deeper (envOfC "runs" (defScope s_runs) s.heap.objs.size f cdv)).units + 1 < cLine := hu_of hr
  have hu2 : (A.deeper (envOfC "runs" (defScope s_runs) s.heap.objs.size f cdv)).units + 65 < cLine := by have := hr.un; omega
  exact body_end (Nm := n_runs) (n := 1) rfl (dss_cons (ds_expr (hs := rfl) (de_callC (hdb := by decide) (he := rfl) (hpl := rfl) C_check_horses (hr.mono (by decide)) rfl (da_cons (hs := rfl) (de_v 0) da_nil))) (dss_cons (ds_set (hs := rfl) (hf := .inl rfl) (i := 1) sc_runs.nd rfl (by first | exact .inl rfl | exact .inr rfl) (de_callC (hdb := by decide) (he := rfl) (hpl := rfl) C_begins_of (hr.mono (by decide)) rfl (da_cons (hs := rfl) (de_v 0) da_nil))) (dss_one (ds_ret (de_if (dt_cmp o_gt nx_c2 (dq_of (de_callB (hn := by decide) (hdb := by decide) (he := rfl) (hpl := rfl) (k_len (K := K) rfl) nx_len rfl B.b_len (by decide +kernel) (db_cons (hs := rfl) (dq_of (de_v 1)) db_nil))) (dq_of de_int) (nomark _)) (de_callTy (hn := by decide) (hdb := by decide) (he := rfl) (hpl := rfl) (k_tuple (K := K) rfl) nx_tuple rfl B.b_tuple (by decide +kernel) (db_cons (hs := rfl) (dq_of (de_callC (hdb := by decide) (he := rfl) (hpl := rfl) C_ways_round (hr.mono (by decide)) rfl (da_cons (hs := rfl) (de_v 1) (da_cons (hs := rfl) (de_callB (hn := by decide) (hdb := by decide) (he := rfl) (hpl := rfl) (k_len (K := K) rfl) nx_len rfl B.b_len (by decide +kernel) (db_cons (hs := rfl) (dq_of (de_v 0)) db_nil)) da_nil)))) db_nil)) (de_tup (da_cons (hs := rfl) (de_callB (hn := by decide) (hdb := by decide) (he := rfl) (hpl := rfl) (k_len (K := K) rfl) nx_len rfl B.b_len (by decide +kernel) (db_cons (hs := rfl) (dq_of (de_v 0)) db_nil)) da_nil))))))) h
theorem cal_runs {h : Heap} (X : K.In h) (G : h.Ns mainGlobals mg) (A : FunAt K "runs" s_runs) (B : Bt mg) (C_begins_of : Callee P w K mg base "begins_of" 1 m_begins_of) (C_check_horses : Callee P w K mg base "check_horses" 4 m_check_horses) (C_ways_round : Callee P w K mg base "ways_round" 1 m_ways_round) : Callee P w K mg base "runs" 5 m_runs := by
  obtain ⟨f, fd, a, F⟩ := A
  exact ⟨f, fd, ["horses"], ok_runs F B C_begins_of C_check_horses C_ways_round, PySem.W.mg_of X G a, F.kp, F.binds fun _ _ _ _ _ _ us hl => match us, hl with | [_], _ => rfl⟩
abbrev s_apart : Stmt := topS 45
def m_apart : List D → Res D := runF 2 5 (sSeq (sDrop (eFn (fun ds => noX (m_check_horses ds)) (aCons (eV 0) aNil))) (sSeq (sSet 2 (eLc (iEnumA (eV 0)) [3, 4] (tgT (tgCons (tgN 3) (tgCons (tgN 4) tgNil))) (tst (e2 eqD (eV 4) (eV 1))) (eV 3))) (sRet (eIf (tst (e2 gtD (eCall lenD (aCons (eV 2) aNil)) (eC (.int 0)))) (eCall maxD1 (aCons (eFn (fun ds => noX (m_ways_round ds)) (aCons (eV 2) (aCons (eCall lenD (aCons (eV 0) aNil)) aNil))) aNil)) (eC .none)))))
abbrev n_apart : List Str := ["horses", "colour", "places", "place", "one"]
theorem sc_apart : FnScope n_apart ["horses", "colour"] (defScope s_apart) := ⟨rfl, rfl, rfl, by decide +kernel, rfl, by decide +kernel, by decide +kernel⟩
theorem ok_apart {f : Addr} {fd : FuncData} (F : Fun K "apart" "apart" s_apart f fd) (B : Bt mg) (C_check_horses : Callee P w K mg base "check_horses" 4 m_check_horses) (C_ways_round : Callee P w K mg base "ways_round" 1 m_ways_round) : FnOk P w K mg base CX0 5 f fd ["horses", "colour"] (spD m_apart) := by
  refine F.ok sc_apart (fun vs H Q E h => spD_len h) (fun cdv A outer s H vs Q E hr h => ?_)
  have hu : (A.deeper (envOfC "apart" (defScope s_apart) s.heap.objs.size f cdv)).units + 64 < cLine := hr.units
  have hu1 : (A.deeper (envOfC "apart" (defScope s_apart) s.heap.objs.size f cdv)).units + 1 < cLine := hu_of hr
  have hu2 : (A.deeper (envOfC "apart" (defScope s_apart) s.heap.objs.size f cdv)).units + 65 < cLine := by have := hr.un; omega
  exact body_end (Nm := n_apart) (n := 2) rfl (dss_cons (ds_expr (hs := rfl) (de_callC (hdb := by decide) (he := rfl) (hpl := rfl) C_check_horses (hr.mono (by decide)) rfl (da_cons (hs := rfl) (de_v 0) da_nil))) (dss_cons (ds_lc (ps_lc (hs := fun _ => rfl) (i := 2) rfl sc_apart.nd rfl rfl (sw_true rfl rfl rfl (by decide +kernel)) (g := (gTup K 2 (gCons (gName 3) (gCons (gName 4) gNil)))) (dj_of (k_enumA (hs := rfl) (hs2 := rfl) (K := K) rfl rfl B.b_enumerate (de_v 0))) (blkOk_by (own := [("place", 3), ("one", 4)]) (N := n_apart) (sc := defScope s_apart) (by decide +kernel)) (fun _ _ _ _ _ => (gntK (K := K) rfl rfl (by rfl) (by rfl) (tl_cons (tl_cons tl_nil)) (gns (by rfl) (dgn_name (i := 3) sc_apart.nd rfl (by first | exact .inl rfl | exact .inr rfl)) (gns (by rfl) (dgn_name (i := 4) sc_apart.nd rfl (by first | exact .inl rfl | exact .inr rfl)) dgns_nil)))) (ng_t (ng_cons (ng_n 3) (ng_cons (ng_n 4) ng_nil))) (by decide) (fun _ _ _ _ _ => dts_one (dt_cmp (k_eq (K := K) rfl hu) nx_eq (dq_of (de_v 4)) (dq_of (de_v 1)) (nomark _))) (fun _ _ _ _ _ => (de_v 3)))) (dss_one (ds_ret (de_if (dt_cmp o_gt nx_c2 (dq_of (de_callB (hn := by decide) (hdb := by decide) (he := rfl) (hpl := rfl) (k_len (K := K) rfl) nx_len rfl B.b_len (by decide +kernel) (db_cons (hs := rfl) (dq_of (de_v 2)) db_nil))) (dq_of de_int) (nomark _)) (de_callB (hn := by decide) (hdb := by decide) (he := rfl) (hpl := rfl) (k_max1 (K := K) rfl rfl) nx_max1 rfl B.b_max (by decide +kernel) (db_cons (hs := rfl) (dq_of (de_callC (hdb := by decide) (he := rfl) (hpl := rfl) C_ways_round (hr.mono (by decide)) rfl (da_cons (hs := rfl) (de_v 2) (da_cons (hs := rfl) (de_callB (hn := by decide) (hdb := by decide) (he := rfl) (hpl := rfl) (k_len (K := K) rfl) nx_len rfl B.b_len (by decide +kernel) (db_cons (hs := rfl) (dq_of (de_v 0)) db_nil)) da_nil)))) db_nil)) de_non))))) h
theorem cal_apart {h : Heap} (X : K.In h) (G : h.Ns mainGlobals mg) (A : FunAt K "apart" s_apart) (B : Bt mg) (C_check_horses : Callee P w K mg base "check_horses" 4 m_check_horses) (C_ways_round : Callee P w K mg base "ways_round" 1 m_ways_round) : Callee P w K mg base "apart" 5 m_apart := by
  obtain ⟨f, fd, a, F⟩ := A
  exact ⟨f, fd, ["horses", "colour"], ok_apart F B C_check_horses C_ways_round, PySem.W.mg_of X G a, F.kp, F.binds fun _ _ _ _ _ _ us hl => match us, hl with | [_, _], _ => rfl⟩
abbrev s_check_switches : Stmt := topS 52
def m_check_switches : List D → Res D := runF 1 2 (sSeq (sIf (tOrF (tNotF (tst (e1 (isiD' "tuple") (eV 0)))) (tst (e2 gtD (eCall lenD (aCons (eV 0) aNil)) (eC (.int 8))))) sStk sNil) (sIf (tNotF (tst (eCall allD (aCons (eLc (iSeq (eV 0)) [1] (tgN 1) tYesF (eFn (fun ds => noX (m_is_lot ds)) (aCons (eV 1) (aCons (eC (.int 10)) aNil)))) aNil)))) sStk sNil))
abbrev n_check_switches : List Str := ["switches", "one"]
theorem sc_check_switches : FnScope n_check_switches ["switches"] (defScope s_check_switches) := ⟨rfl, rfl, rfl, by decide +kernel, rfl, by decide +kernel, by decide +kernel⟩
theorem ok_check_switches {f : Addr} {fd : FuncData} (F : Fun K "check_switches" "check_switches" s_check_switches f fd) (B : Bt mg) (C_is_lot : Callee P w K mg base "is_lot" 4 m_is_lot) : FnOk P w K mg base CX0 5 f fd ["switches"] (spD m_check_switches) := by
  refine F.ok sc_check_switches (fun vs H Q E h => spD_len h) (fun cdv A outer s H vs Q E hr h => ?_)
  have hu : (A.deeper (envOfC "check_switches" (defScope s_check_switches) s.heap.objs.size f cdv)).units + 64 < cLine := hr.units
  have hu1 : (A.deeper (envOfC "check_switches" (defScope s_check_switches) s.heap.objs.size f cdv)).units + 1 < cLine := hu_of hr
  have hu2 : (A.deeper (envOfC "check_switches" (defScope s_check_switches) s.heap.objs.size f cdv)).units + 65 < cLine := by have := hr.un; omega
  exact body_end (Nm := n_check_switches) (n := 1) rfl (dss_cons (ds_if (dt_of (dw_or (dt_not (dt_val (he := fun _ => rfl) (k_isi (hn2 := by decide) (hd2 := by decide) (s1 := rfl) (s2 := rfl) (hpl := rfl) (K := K) rfl rfl B.b_isinstance (by decide +kernel) rfl B.b_tuple (by decide +kernel) (dq_of (de_v 0))))) (dw_or1 (dt_cmp o_gt nx_c2 (dq_of (de_callB (hn := by decide) (hdb := by decide) (he := rfl) (hpl := rfl) (k_len (K := K) rfl) nx_len rfl B.b_len (by decide +kernel) (db_cons (hs := rfl) (dq_of (de_v 0)) db_nil))) (dq_of (de_globI rfl B.g_MOST_SWITCHES)) (nomark _))))) (dss_one ds_never) dss_nil) (dss_one (ds_if (dt_not (dt_val (he := fun _ => rfl) (de_callB (hn := by decide) (hdb := by decide) (he := rfl) (hpl := rfl) (k_all (K := K) rfl rfl) nx_all rfl B.b_all (by decide +kernel) (db_cons (hs := rfl) (dq_of (de_of (dn_lc (hs := fun _ => rfl) rfl sc_check_switches.nd (g := (gName 1)) (dj_of (k_seq (K := K) rfl (de_v 0))) (blkOk_by (own := [("one", 1)]) (N := n_check_switches) (sc := defScope s_check_switches) (by decide +kernel)) (fun _ _ _ _ _ => (dgn_name (i := 1) sc_check_switches.nd rfl (by first | exact .inl rfl | exact .inr rfl))) (ng_n 1) (by decide) (fun _ _ _ _ _ => dts_nil) (fun _ _ _ _ _ => (de_callC (hdb := by decide) (he := rfl) (hpl := rfl) C_is_lot (hr.mono (by decide)) rfl (da_cons (hs := rfl) (de_v 1) (da_cons (hs := rfl) (de_globI rfl B.g_LIGHTS) da_nil))))))) db_nil)))) (dss_one ds_never) dss_nil))) h
theorem cal_check_switches {h : Heap} (X : K.In h) (G : h.Ns mainGlobals mg) (A : FunAt K "check_switches" s_check_switches) (B : Bt mg) (C_is_lot : Callee P w K mg base "is_lot" 4 m_is_lot) : Callee P w K mg base "check_switches" 5 m_check_switches := by
  obtain ⟨f, fd, a, F⟩ := A
  exact ⟨f, fd, ["switches"], ok_check_switches F B C_is_lot, PySem.W.mg_of X G a, F.kp, F.binds fun _ _ _ _ _ _ us hl => match us, hl with | [_], _ => rfl⟩
abbrev s_check_wanted : Stmt := topS 53
def m_check_wanted : List D → Res D := runF 2 2 (sSeq (sDrop (eFn (fun ds => noX (m_check_switches ds)) (aCons (eV 0) aNil))) (sIf (tNotF (tst (eFn (fun ds => noX (m_is_lot ds)) (aCons (eV 1) (aCons (eC (.int 10)) aNil))))) sStk sNil))
abbrev n_check_wanted : List Str := ["switches", "wanted"]
theorem sc_check_wanted : FnScope n_check_wanted ["switches", "wanted"] (defScope s_check_wanted) := ⟨rfl, rfl, rfl, by decide +kernel, rfl, by decide +kernel, by decide +kernel⟩
theorem ok_check_wanted {f : Addr} {fd : FuncData} (F : Fun K "check_wanted" "check_wanted" s_check_wanted f fd) (B : Bt mg) (C_check_switches : Callee P w K mg base "check_switches" 5 m_check_switches) (C_is_lot : Callee P w K mg base "is_lot" 4 m_is_lot) : FnOk P w K mg base CX0 6 f fd ["switches", "wanted"] (spD m_check_wanted) := by
  refine F.ok sc_check_wanted (fun vs H Q E h => spD_len h) (fun cdv A outer s H vs Q E hr h => ?_)
  have hu : (A.deeper (envOfC "check_wanted" (defScope s_check_wanted) s.heap.objs.size f cdv)).units + 64 < cLine := hr.units
  have hu1 : (A.deeper (envOfC "check_wanted" (defScope s_check_wanted) s.heap.objs.size f cdv)).units + 1 < cLine := hu_of hr
  have hu2 : (A.deeper (envOfC "check_wanted" (defScope s_check_wanted) s.heap.objs.size f cdv)).units + 65 < cLine := by have := hr.un; omega
  exact body_end (Nm := n_check_wanted) (n := 2) rfl (dss_cons (ds_expr (hs := rfl) (de_callC (hdb := by decide) (he := rfl) (hpl := rfl) C_check_switches (hr.mono (by decide)) rfl (da_cons (hs := rfl) (de_v 0) da_nil))) (dss_one (ds_if (dt_not (dt_val (he := fun _ => rfl) (de_callC (hdb := by decide) (he := rfl) (hpl := rfl) C_is_lot (hr.mono (by decide)) rfl (da_cons (hs := rfl) (de_v 1) (da_cons (hs := rfl) (de_globI rfl B.g_LIGHTS) da_nil))))) (dss_one ds_never) dss_nil))) h
theorem cal_check_wanted {h : Heap} (X : K.In h) (G : h.Ns mainGlobals mg) (A : FunAt K "check_wanted" s_check_wanted) (B : Bt mg) (C_check_switches : Callee P w K mg base "check_switches" 5 m_check_switches) (C_is_lot : Callee P w K mg base "is_lot" 4 m_is_lot) : Callee P w K mg base "check_wanted" 6 m_check_wanted := by
  obtain ⟨f, fd, a, F⟩ := A
  exact ⟨f, fd, ["switches", "wanted"], ok_check_wanted F B C_check_switches C_is_lot, PySem.W.mg_of X G a, F.kp, F.binds fun _ _ _ _ _ _ us hl => match us, hl with | [_, _], _ => rfl⟩
abbrev s_shine : Stmt := topS 60
def m_shine : List D → Res D := runF 2 2 (sSeq (sDrop (eFn (fun ds => noX (m_check_switches ds)) (aCons (eV 0) aNil))) (sSeq (sIf (tNotF (tst (eFn (fun ds => noX (m_is_lot ds)) (aCons (eV 1) (aCons (eCall lenD (aCons (eV 0) aNil)) aNil))))) sStk sNil) (sRet (eFn (fun ds => noX (m_raw_shine ds)) (aCons (eV 0) (aCons (eV 1) aNil))))))
abbrev n_shine : List Str := ["switches", "pressed"]
theorem sc_shine : FnScope n_shine ["switches", "pressed"] (defScope s_shine) := ⟨rfl, rfl, rfl, by decide +kernel, rfl, by decide +kernel, by decide +kernel⟩
theorem ok_shine {f : Addr} {fd : FuncData} (F : Fun K "shine" "shine" s_shine f fd) (B : Bt mg) (C_check_switches : Callee P w K mg base "check_switches" 5 m_check_switches) (C_is_lot : Callee P w K mg base "is_lot" 4 m_is_lot) (C_raw_shine : Callee P w K mg base "raw_shine" 1 m_raw_shine) : FnOk P w K mg base CX0 6 f fd ["switches", "pressed"] (spD m_shine) := by
  refine F.ok sc_shine (fun vs H Q E h => spD_len h) (fun cdv A outer s H vs Q E hr h => ?_)
  have hu : (A.deeper (envOfC "shine" (defScope s_shine) s.heap.objs.size f cdv)).units + 64 < cLine := hr.units
  have hu1 : (A.deeper (envOfC "shine" (defScope s_shine) s.heap.objs.size f cdv)).units + 1 < cLine := hu_of hr
  have hu2 : (A.deeper (envOfC "shine" (defScope s_shine) s.heap.objs.size f cdv)).units + 65 < cLine := by have := hr.un; omega
  exact body_end (Nm := n_shine) (n := 2) rfl (dss_cons (ds_expr (hs := rfl) (de_callC (hdb := by decide) (he := rfl) (hpl := rfl) C_check_switches (hr.mono (by decide)) rfl (da_cons (hs := rfl) (de_v 0) da_nil))) (dss_cons (ds_if (dt_not (dt_val (he := fun _ => rfl) (de_callC (hdb := by decide) (he := rfl) (hpl := rfl) C_is_lot (hr.mono (by decide)) rfl (da_cons (hs := rfl) (de_v 1) (da_cons (hs := rfl) (de_callB (hn := by decide) (hdb := by decide) (he := rfl) (hpl := rfl) (k_len (K := K) rfl) nx_len rfl B.b_len (by decide +kernel) (db_cons (hs := rfl) (dq_of (de_v 0)) db_nil)) da_nil))))) (dss_one ds_never) dss_nil) (dss_one (ds_ret (de_callC (hdb := by decide) (he := rfl) (hpl := rfl) C_raw_shine (hr.mono (by decide)) rfl (da_cons (hs := rfl) (de_v 0) (da_cons (hs := rfl) (de_v 1) da_nil))))))) h
theorem cal_shine {h : Heap} (X : K.In h) (G : h.Ns mainGlobals mg) (A : FunAt K "shine" s_shine) (B : Bt mg) (C_check_switches : Callee P w K mg base "check_switches" 5 m_check_switches) (C_is_lot : Callee P w K mg base "is_lot" 4 m_is_lot) (C_raw_shine : Callee P w K mg base "raw_shine" 1 m_raw_shine) : Callee P w K mg base "shine" 6 m_shine := by
  obtain ⟨f, fd, a, F⟩ := A
  exact ⟨f, fd, ["switches", "pressed"], ok_shine F B C_check_switches C_is_lot C_raw_shine, PySem.W.mg_of X G a, F.kp, F.binds fun _ _ _ _ _ _ us hl => match us, hl with | [_, _], _ => rfl⟩
abbrev s_looks_many : Stmt := topS 61
def m_looks_many : List D → Res D := runF 1 1 (sSeq (sDrop (eFn (fun ds => noX (m_check_switches ds)) (aCons (eV 0) aNil))) (sRet (eCall lenTD (aCons (eFn (fun ds => noX (m_all_shines ds)) (aCons (eV 0) aNil)) aNil))))
abbrev n_looks_many : List Str := ["switches"]
theorem sc_looks_many : FnScope n_looks_many ["switches"] (defScope s_looks_many) := ⟨rfl, rfl, rfl, by decide +kernel, rfl, by decide +kernel, by decide +kernel⟩
theorem ok_looks_many {f : Addr} {fd : FuncData} (F : Fun K "looks_many" "looks_many" s_looks_many f fd) (B : Bt mg) (C_all_shines : Callee P w K mg base "all_shines" 3 m_all_shines) (C_check_switches : Callee P w K mg base "check_switches" 5 m_check_switches) : FnOk P w K mg base CX0 6 f fd ["switches"] (spD m_looks_many) := by
  refine F.ok sc_looks_many (fun vs H Q E h => spD_len h) (fun cdv A outer s H vs Q E hr h => ?_)
  have hu : (A.deeper (envOfC "looks_many" (defScope s_looks_many) s.heap.objs.size f cdv)).units + 64 < cLine := hr.units
  have hu1 : (A.deeper (envOfC "looks_many" (defScope s_looks_many) s.heap.objs.size f cdv)).units + 1 < cLine := hu_of hr
  have hu2 : (A.deeper (envOfC "looks_many" (defScope s_looks_many) s.heap.objs.size f cdv)).units + 65 < cLine := by have := hr.un; omega
  exact body_end (Nm := n_looks_many) (n := 1) rfl (dss_cons (ds_expr (hs := rfl) (de_callC (hdb := by decide) (he := rfl) (hpl := rfl) C_check_switches (hr.mono (by decide)) rfl (da_cons (hs := rfl) (de_v 0) da_nil))) (dss_one (ds_ret (de_callB (hn := by decide) (hdb := by decide) (he := rfl) (hpl := rfl) c_lenT nx_lenT rfl B.b_len (by decide +kernel) (db_cons (hs := rfl) (dq_of (de_callC (hdb := by decide) (he := rfl) (hpl := rfl) C_all_shines (hr.mono (by decide)) rfl (da_cons (hs := rfl) (de_v 0) da_nil))) db_nil))))) h
theorem cal_looks_many {h : Heap} (X : K.In h) (G : h.Ns mainGlobals mg) (A : FunAt K "looks_many" s_looks_many) (B : Bt mg) (C_all_shines : Callee P w K mg base "all_shines" 3 m_all_shines) (C_check_switches : Callee P w K mg base "check_switches" 5 m_check_switches) : Callee P w K mg base "looks_many" 6 m_looks_many := by
  obtain ⟨f, fd, a, F⟩ := A
  exact ⟨f, fd, ["switches"], ok_looks_many F B C_all_shines C_check_switches, PySem.W.mg_of X G a, F.kp, F.binds fun _ _ _ _ _ _ us hl => match us, hl with | [_], _ => rfl⟩
abbrev s_idle_press : Stmt := topS 62
def m_idle_press : List D → Res D := runF 1 2 (sSeq (sDrop (eFn (fun ds => noX (m_check_switches ds)) (aCons (eV 0) aNil))) (sSeq (sFor (iSeq (eSlice (eFn (fun ds => noX (m_all_lots ds)) (aCons (eCall lenD (aCons (eV 0) aNil)) aNil)) (oSome (eC (.int 1))) oNone)) (tgN 1) (sIf (tst (e2 eqD (eFn (fun ds => noX (m_raw_shine ds)) (aCons (eV 0) (aCons (eV 1) aNil))) (eTup aNil))) (sRet (eV 1)) sNil)) (sRet (eC .none))))
abbrev n_idle_press : List Str := ["switches", "pressed"]
theorem sc_idle_press : FnScope n_idle_press ["switches"] (defScope s_idle_press) := ⟨rfl, rfl, rfl, by decide +kernel, rfl, by decide +kernel, by decide +kernel⟩
theorem ok_idle_press {f : Addr} {fd : FuncData} (F : Fun K "idle_press" "idle_press" s_idle_press f fd) (B : Bt mg) (C_all_lots : Callee P w K mg base "all_lots" 2 m_all_lots) (C_check_switches : Callee P w K mg base "check_switches" 5 m_check_switches) (C_raw_shine : Callee P w K mg base "raw_shine" 1 m_raw_shine) : FnOk P w K mg base CX0 6 f fd ["switches"] (spD m_idle_press) := by
  refine F.ok sc_idle_press (fun vs H Q E h => spD_len h) (fun cdv A outer s H vs Q E hr h => ?_)
  have hu : (A.deeper (envOfC "idle_press" (defScope s_idle_press) s.heap.objs.size f cdv)).units + 64 < cLine := hr.units
  have hu1 : (A.deeper (envOfC "idle_press" (defScope s_idle_press) s.heap.objs.size f cdv)).units + 1 < cLine := hu_of hr
  have hu2 : (A.deeper (envOfC "idle_press" (defScope s_idle_press) s.heap.objs.size f cdv)).units + 65 < cLine := by have := hr.un; omega
  exact body_end (Nm := n_idle_press) (n := 1) rfl (dss_cons (ds_expr (hs := rfl) (de_callC (hdb := by decide) (he := rfl) (hpl := rfl) C_check_switches (hr.mono (by decide)) rfl (da_cons (hs := rfl) (de_v 0) da_nil))) (dss_cons (ds_for (hs := fun _ => rfl) PassesOwn.never rfl (k_seq (K := K) rfl (k_slice (K := K) rfl (dq_of (de_callC (hdb := by decide) (he := rfl) (hpl := rfl) C_all_lots (hr.mono (by decide)) rfl (da_cons (hs := rfl) (de_callB (hn := by decide) (hdb := by decide) (he := rfl) (hpl := rfl) (k_len (K := K) rfl) nx_len rfl B.b_len (by decide +kernel) (db_cons (hs := rfl) (dq_of (de_v 0)) db_nil)) da_nil))) (do_some (dq_of de_int)) do_none)) (dg_name (i := 1) sc_idle_press.nd rfl (by first | exact .inl rfl | exact .inr rfl)) (dss_one (ds_if (dt_cmp (k_eq (K := K) rfl hu) nx_eq (dq_of (de_callC (hdb := by decide) (he := rfl) (hpl := rfl) C_raw_shine (hr.mono (by decide)) rfl (da_cons (hs := rfl) (de_v 0) (da_cons (hs := rfl) (de_v 1) da_nil)))) (dq_of (de_tup da_nil)) (nomark _)) (dss_one (ds_ret (de_v 1))) dss_nil))) (dss_one (ds_ret de_non)))) h
theorem cal_idle_press {h : Heap} (X : K.In h) (G : h.Ns mainGlobals mg) (A : FunAt K "idle_press" s_idle_press) (B : Bt mg) (C_all_lots : Callee P w K mg base "all_lots" 2 m_all_lots) (C_check_switches : Callee P w K mg base "check_switches" 5 m_check_switches) (C_raw_shine : Callee P w K mg base "raw_shine" 1 m_raw_shine) : Callee P w K mg base "idle_press" 6 m_idle_press := by
  obtain ⟨f, fd, a, F⟩ := A
  exact ⟨f, fd, ["switches"], ok_idle_press F B C_all_lots C_check_switches C_raw_shine, PySem.W.mg_of X G a, F.kp, F.binds fun _ _ _ _ _ _ us hl => match us, hl with | [_], _ => rfl⟩
abbrev s_most_lights : Stmt := topS 63
def m_most_lights : List D → Res D := runF 1 2 (sSeq (sDrop (eFn (fun ds => noX (m_check_switches ds)) (aCons (eV 0) aNil))) (sRet (eCall maxD1 (aCons (eLc (iKeysF (eFn (fun ds => noX (m_all_shines ds)) (aCons (eV 0) aNil))) [1] (tgN 1) tYesF (eCall lenD (aCons (eV 1) aNil))) aNil))))
abbrev n_most_lights : List Str := ["switches", "shown"]
theorem sc_most_lights : FnScope n_most_lights ["switches"] (defScope s_most_lights) := ⟨rfl, rfl, rfl, by decide +kernel, rfl, by decide +kernel, by decide +kernel⟩
theorem ok_most_lights {f : Addr} {fd : FuncData} (F : Fun K "most_lights" "most_lights" s_most_lights f fd) (B : Bt mg) (C_all_shines : Callee P w K mg base "all_shines" 3 m_all_shines) (C_check_switches : Callee P w K mg base "check_switches" 5 m_check_switches) : FnOk P w K mg base CX0 6 f fd ["switches"] (spD m_most_lights) := by
  refine F.ok sc_most_lights (fun vs H Q E h => spD_len h) (fun cdv A outer s H vs Q E hr h => ?_)
  have hu : (A.deeper (envOfC "most_lights" (defScope s_most_lights) s.heap.objs.size f cdv)).units + 64 < cLine := hr.units
  have hu1 : (A.deeper (envOfC "most_lights" (defScope s_most_lights) s.heap.objs.size f cdv)).units + 1 < cLine := hu_of hr
  have hu2 : (A.deeper (envOfC "most_lights" (defScope s_most_lights) s.heap.objs.size f cdv)).units + 65 < cLine := by have := hr.un; omega
  exact body_end (Nm := n_most_lights) (n := 1) rfl (dss_cons (ds_expr (hs := rfl) (de_callC (hdb := by decide) (he := rfl) (hpl := rfl) C_check_switches (hr.mono (by decide)) rfl (da_cons (hs := rfl) (de_v 0) da_nil))) (dss_one (ds_ret (de_callB (hn := by decide) (hdb := by decide) (he := rfl) (hpl := rfl) (k_max1 (K := K) rfl rfl) nx_max1 rfl B.b_max (by decide +kernel) (db_cons (hs := rfl) (dq_of (de_of (dn_lc (hs := fun _ => rfl) rfl sc_most_lights.nd (g := (gName 1)) (dj_keys (de_callC (hdb := by decide) (he := rfl) (hpl := rfl) C_all_shines (hr.mono (by decide)) rfl (da_cons (hs := rfl) (de_v 0) da_nil))) (blkOk_by (own := [("shown", 1)]) (N := n_most_lights) (sc := defScope s_most_lights) (by decide +kernel)) (fun _ _ _ _ _ => (dgn_name (i := 1) sc_most_lights.nd rfl (by first | exact .inl rfl | exact .inr rfl))) (ng_n 1) (by decide) (fun _ _ _ _ _ => dts_nil) (fun _ _ _ _ _ => (de_callB (hn := by decide) (hdb := by decide) (he := rfl) (hpl := rfl) (k_len (K := K) rfl) nx_len rfl B.b_len (by decide +kernel) (db_cons (hs := rfl) (dq_of (de_v 1)) db_nil)))))) db_nil))))) h
theorem cal_most_lights {h : Heap} (X : K.In h) (G : h.Ns mainGlobals mg) (A : FunAt K "most_lights" s_most_lights) (B : Bt mg) (C_all_shines : Callee P w K mg base "all_shines" 3 m_all_shines) (C_check_switches : Callee P w K mg base "check_switches" 5 m_check_switches) : Callee P w K mg base "most_lights" 6 m_most_lights := by
  obtain ⟨f, fd, a, F⟩ := A
  exact ⟨f, fd, ["switches"], ok_most_lights F B C_all_shines C_check_switches, PySem.W.mg_of X G a, F.kp, F.binds fun _ _ _ _ _ _ us hl => match us, hl with | [_], _ => rfl⟩
abbrev s__law_is_lit_right : Stmt := topS 69
def m__law_is_lit_right : List D → Res D := runF 3 6 (sSeq (sSet 3 (eRgT (g1 (eCall lenD (aCons (eV 2) aNil))))) (sSeq (sIf (tOrF (tst (e2 neD (eFn (fun ds => noX (m_lit ds)) (aCons (eV 0) (aCons (eV 2) aNil))) (eRgT (g1 (eV 0))))) (tOrF (tst (e2 isnD (eFn (fun ds => noX (m_dark ds)) (aCons (eV 0) (aCons (eV 2) aNil))) (eC .none))) (tst (e2 neD (eFn (fun ds => noX (m_needless ds)) (aCons (eV 0) (aCons (eV 2) aNil))) (eTup aNil))))) (sRet (eC (.bool false))) sNil) (sSeq (sIf (tOrF (tst (e2 neD (eFn (fun ds => noX (m_fewest_lamps ds)) (aCons (eV 0) (aCons (eV 2) aNil))) (eV 3))) (tst (e2 isnD (eFn (fun ds => noX (m_is_lighting ds)) (aCons (eV 0) (aCons (eV 2) (aCons (eV 3) aNil)))) (eC (.bool true))))) (sRet (eC (.bool false))) sNil) (sSeq (sIf (tOrF (tst (e2 neD (eCall maxD1 (aCons (eLc (iSeq (eV 2)) [4, 5] (tgT (tgCons (tgN 4) (tgCons (tgN 5) tgNil))) tYesF (eV 5)) aNil)) (eFn (fun ds => noX (m_apart ds)) (aCons (eV 1) (aCons (eC (.int 1)) aNil))))) (tst (e2 neD (eFn (fun ds => noX (m_brightest ds)) (aCons (eV 0) (aCons (eV 2) aNil))) (eTup (aCons (eC (.int 0)) (aCons (eC (.int 1)) aNil)))))) (sRet (eC (.bool false))) sNil) (sSeq (sIf (tOrF (tst (e2 neD (eCall sumD (aCons (eLc (iSeq (eV 2)) [4, 5] (tgT (tgCons (tgN 4) (tgCons (tgN 5) tgNil))) tYesF (eV 5)) aNil)) (eV 0))) (tst (e2 gtD (eCall lenD (aCons (eFn (fun ds => noX (m_runs ds)) (aCons (eV 1) aNil)) aNil)) (e2 mulD (eC (.int 2)) (eCall lenD (aCons (eV 2) aNil)))))) (sRet (eC (.bool false))) sNil) (sRet (e2 eqD (eFn (fun ds => noX (m_lit ds)) (aCons (eV 0) (aCons (eFn (fun ds => noX (m_turned_lamps ds)) (aCons (eV 0) (aCons (eV 2) (aCons (eC (.int 1)) aNil)))) aNil))) (eRgT (g1 (eV 0))))))))))
abbrev n__law_is_lit_right : List Str := ["size", "row", "lamps", "every_now", "begin", "many"]
theorem sc__law_is_lit_right : FnScope n__law_is_lit_right ["size", "row", "lamps"] (defScope s__law_is_lit_right) := ⟨rfl, rfl, rfl, by decide +kernel, rfl, by decide +kernel, by decide +kernel⟩
theorem ok__law_is_lit_right {f : Addr} {fd : FuncData} (F : Fun K "_law_is_lit_right" "_law_is_lit_right" s__law_is_lit_right f fd) (B : Bt mg) (C_apart : Callee P w K mg base "apart" 5 m_apart) (C_brightest : Callee P w K mg base "brightest" 5 m_brightest) (C_dark : Callee P w K mg base "dark" 5 m_dark) (C_fewest_lamps : Callee P w K mg base "fewest_lamps" 5 m_fewest_lamps) (C_is_lighting : Callee P w K mg base "is_lighting" 5 m_is_lighting) (C_lit : Callee P w K mg base "lit" 5 m_lit) (C_needless : Callee P w K mg base "needless" 5 m_needless) (C_runs : Callee P w K mg base "runs" 5 m_runs) (C_turned_lamps : Callee P w K mg base "turned_lamps" 5 m_turned_lamps) : FnOk P w K mg base CX0 6 f fd ["size", "row", "lamps"] (spD m__law_is_lit_right) := by
  refine F.ok sc__law_is_lit_right (fun vs H Q E h => spD_len h) (fun cdv A outer s H vs Q E hr h => ?_)
  have hu : (A.deeper (envOfC "_law_is_lit_right" (defScope s__law_is_lit_right) s.heap.objs.size f cdv)).units + 64 < cLine := hr.units
  have hu1 : (A.deeper (envOfC "_law_is_lit_right" (defScope s__law_is_lit_right) s.heap.objs.size f cdv)).units + 1 < cLine := hu_of hr
  have hu2 : (A.deeper (envOfC "_law_is_lit_right" (defScope s__law_is_lit_right) s.heap.objs.size f cdv)).units + 65 < cLine := by have := hr.un; omega
  exact body_end (Nm := n__law_is_lit_right) (n := 3) rfl (dss_cons (ds_set (hs := rfl) (hf := .inl rfl) (i := 3) sc__law_is_lit_right.nd rfl (by first | exact .inl rfl | exact .inr rfl) (de_tupRg (na := rfl) rfl rfl B.b_tuple (dr_1 (na := rfl) rfl B.b_range (dq_of (de_callB (hn := by decide) (hdb := by decide) (he := rfl) (hpl := rfl) (k_len (K := K) rfl) nx_len rfl B.b_len (by decide +kernel) (db_cons (hs := rfl) (dq_of (de_v 2)) db_nil)))))) (dss_cons (ds_if (dt_of (dw_or (dt_cmp (k_ne (K := K) rfl hu) nx_ne (dq_of (de_callC (hdb := by decide) (he := rfl) (hpl := rfl) C_lit (hr.mono (by decide)) rfl (da_cons (hs := rfl) (de_v 0) (da_cons (hs := rfl) (de_v 2) da_nil)))) (dq_of (de_tupRg (na := rfl) rfl rfl B.b_tuple (dr_1 (na := rfl) rfl B.b_range (dq_of (de_v 0))))) (nomark _)) (dw_or (dt_cmp o_isn nx_isn (dq_of (de_callC (hdb := by decide) (he := rfl) (hpl := rfl) C_dark (hr.mono (by decide)) rfl (da_cons (hs := rfl) (de_v 0) (da_cons (hs := rfl) (de_v 2) da_nil)))) (dq_of de_non) (nomark _)) (dw_or1 (dt_cmp (k_ne (K := K) rfl hu) nx_ne (dq_of (de_callC (hdb := by decide) (he := rfl) (hpl := rfl) C_needless (hr.mono (by decide)) rfl (da_cons (hs := rfl) (de_v 0) (da_cons (hs := rfl) (de_v 2) da_nil)))) (dq_of (de_tup da_nil)) (nomark _)))))) (dss_one (ds_ret de_bl)) dss_nil) (dss_cons (ds_if (dt_of (dw_or (dt_cmp (k_ne (K := K) rfl hu) nx_ne (dq_of (de_callC (hdb := by decide) (he := rfl) (hpl := rfl) C_fewest_lamps (hr.mono (by decide)) rfl (da_cons (hs := rfl) (de_v 0) (da_cons (hs := rfl) (de_v 2) da_nil)))) (dq_of (de_v 3)) (nomark _)) (dw_or1 (dt_cmp o_isn nx_isn (dq_of (de_callC (hdb := by decide) (he := rfl) (hpl := rfl) C_is_lighting (hr.mono (by decide)) rfl (da_cons (hs := rfl) (de_v 0) (da_cons (hs := rfl) (de_v 2) (da_cons (hs := rfl) (de_v 3) da_nil))))) (dq_of de_bl) (nomark _))))) (dss_one (ds_ret de_bl)) dss_nil) (dss_cons (ds_if (dt_of (dw_or (dt_cmp (k_ne (K := K) rfl hu) nx_ne (dq_of (de_callB (hn := by decide) (hdb := by decide) (he := rfl) (hpl := rfl) (k_max1 (K := K) rfl rfl) nx_max1 rfl B.b_max (by decide +kernel) (db_cons (hs := rfl) (dq_of (de_of (dn_lc (hs := fun _ => rfl) rfl sc__law_is_lit_right.nd (g := (gTup K 2 (gCons (gName 4) (gCons (gName 5) gNil)))) (dj_of (k_seq (K := K) rfl (de_v 2))) (blkOk_by (own := [("begin", 4), ("many", 5)]) (N := n__law_is_lit_right) (sc := defScope s__law_is_lit_right) (by decide +kernel)) (fun _ _ _ _ _ => (gntK (K := K) rfl rfl (by rfl) (by rfl) (tl_cons (tl_cons tl_nil)) (gns (by rfl) (dgn_name (i := 4) sc__law_is_lit_right.nd rfl (by first | exact .inl rfl | exact .inr rfl)) (gns (by rfl) (dgn_name (i := 5) sc__law_is_lit_right.nd rfl (by first | exact .inl rfl | exact .inr rfl)) dgns_nil)))) (ng_t (ng_cons (ng_n 4) (ng_cons (ng_n 5) ng_nil))) (by decide) (fun _ _ _ _ _ => dts_nil) (fun _ _ _ _ _ => (de_v 5))))) db_nil))) (dq_of (de_callC (hdb := by decide) (he := rfl) (hpl := rfl) C_apart (hr.mono (by decide)) rfl (da_cons (hs := rfl) (de_v 1) (da_cons (hs := rfl) de_int da_nil)))) (nomark _)) (dw_or1 (dt_cmp (k_ne (K := K) rfl hu) nx_ne (dq_of (de_callC (hdb := by decide) (he := rfl) (hpl := rfl) C_brightest (hr.mono (by decide)) rfl (da_cons (hs := rfl) (de_v 0) (da_cons (hs := rfl) (de_v 2) da_nil)))) (dq_of (de_tup (da_cons (hs := rfl) de_int (da_cons (hs := rfl) de_int da_nil)))) (nomark _))))) (dss_one (ds_ret de_bl)) dss_nil) (dss_cons (ds_if (dt_of (dw_or (dt_cmp (k_ne (K := K) rfl hu) nx_ne (dq_of (de_callB (hn := by decide) (hdb := by decide) (he := rfl) (hpl := rfl) (k_sum (K := K) rfl rfl) nx_sum rfl B.b_sum (by decide +kernel) (db_cons (hs := rfl) (dq_of (de_of (dn_lc (hs := fun _ => rfl) rfl sc__law_is_lit_right.nd (g := (gTup K 2 (gCons (gName 4) (gCons (gName 5) gNil)))) (dj_of (k_seq (K := K) rfl (de_v 2))) (blkOk_by (own := [("begin", 4), ("many", 5)]) (N := n__law_is_lit_right) (sc := defScope s__law_is_lit_right) (by decide +kernel)) (fun _ _ _ _ _ => (gntK (K := K) rfl rfl (by rfl) (by rfl) (tl_cons (tl_cons tl_nil)) (gns (by rfl) (dgn_name (i := 4) sc__law_is_lit_right.nd rfl (by first | exact .inl rfl | exact .inr rfl)) (gns (by rfl) (dgn_name (i := 5) sc__law_is_lit_right.nd rfl (by first | exact .inl rfl | exact .inr rfl)) dgns_nil)))) (ng_t (ng_cons (ng_n 4) (ng_cons (ng_n 5) ng_nil))) (by decide) (fun _ _ _ _ _ => dts_nil) (fun _ _ _ _ _ => (de_v 5))))) db_nil))) (dq_of (de_v 0)) (nomark _)) (dw_or1 (dt_cmp o_gt nx_c2 (dq_of (de_callB (hn := by decide) (hdb := by decide) (he := rfl) (hpl := rfl) (k_len (K := K) rfl) nx_len rfl B.b_len (by decide +kernel) (db_cons (hs := rfl) (dq_of (de_callC (hdb := by decide) (he := rfl) (hpl := rfl) C_runs (hr.mono (by decide)) rfl (da_cons (hs := rfl) (de_v 1) da_nil))) db_nil))) (dq_of (de_op (k_mul (K := K) rfl) nx_mul (dq_of de_int) (dq_of (de_callB (hn := by decide) (hdb := by decide) (he := rfl) (hpl := rfl) (k_len (K := K) rfl) nx_len rfl B.b_len (by decide +kernel) (db_cons (hs := rfl) (dq_of (de_v 2)) db_nil))))) (nomark _))))) (dss_one (ds_ret de_bl)) dss_nil) (dss_one (ds_ret (de_cmp (k_eq (K := K) rfl hu) nx_eq (dq_of (de_callC (hdb := by decide) (he := rfl) (hpl := rfl) C_lit (hr.mono (by decide)) rfl (da_cons (hs := rfl) (de_v 0) (da_cons (hs := rfl) (de_callC (hdb := by decide) (he := rfl) (hpl := rfl) C_turned_lamps (hr.mono (by decide)) rfl (da_cons (hs := rfl) (de_v 0) (da_cons (hs := rfl) (de_v 2) (da_cons (hs := rfl) de_int da_nil)))) da_nil)))) (dq_of (de_tupRg (na := rfl) rfl rfl B.b_tuple (dr_1 (na := rfl) rfl B.b_range (dq_of (de_v 0))))) (nomark _))))))))) h
theorem cal__law_is_lit_right {h : Heap} (X : K.In h) (G : h.Ns mainGlobals mg) (A : FunAt K "_law_is_lit_right" s__law_is_lit_right) (B : Bt mg) (C_apart : Callee P w K mg base "apart" 5 m_apart) (C_brightest : Callee P w K mg base "brightest" 5 m_brightest) (C_dark : Callee P w K mg base "dark" 5 m_dark) (C_fewest_lamps : Callee P w K mg base "fewest_lamps" 5 m_fewest_lamps) (C_is_lighting : Callee P w K mg base "is_lighting" 5 m_is_lighting) (C_lit : Callee P w K mg base "lit" 5 m_lit) (C_needless : Callee P w K mg base "needless" 5 m_needless) (C_runs : Callee P w K mg base "runs" 5 m_runs) (C_turned_lamps : Callee P w K mg base "turned_lamps" 5 m_turned_lamps) : Callee P w K mg base "_law_is_lit_right" 6 m__law_is_lit_right := by
  obtain ⟨f, fd, a, F⟩ := A
  exact ⟨f, fd, ["size", "row", "lamps"], ok__law_is_lit_right F B C_apart C_brightest C_dark C_fewest_lamps C_is_lighting C_lit C_needless C_runs C_turned_lamps, PySem.W.mg_of X G a, F.kp, F.binds fun _ _ _ _ _ _ us hl => match us, hl with | [_, _, _], _ => rfl⟩
abbrev s__law_is_dark_right : Stmt := topS 70
def m__law_is_dark_right : List D → Bag → Res (D × Bag) := runS 2 10 (sSeq (sSet 3 (eFnS 0 m__law_pick (aCons (eCall lenD (aCons (eV 2) aNil)) aNil))) (sSeq (sSet 4 (e2 addD (eSlice (eV 2) oNone (oSome (eV 3))) (eSlice (eV 2) (oSome (e2 addD (eV 3) (eC (.int 1)))) oNone))) (sSeq (sIf (tOrF (tst (e2 neD (eFn (fun ds => noX (m_dark_stretch ds)) (aCons (eV 1) (aCons (eV 4) aNil))) (e2 ixD (eV 2) (eV 3)))) (tst (e2 isnD (eFn (fun ds => noX (m_is_lighting ds)) (aCons (eV 1) (aCons (eV 2) (aCons (eRgT (g2 (eC (.int 1)) (eCall lenD (aCons (eV 2) aNil)))) aNil)))) (eC (.bool false))))) (sRet (eC (.bool false))) sNil) (sSeq (sAsg (e2 ixD (eV 2) (eV 3)) (tgT (tgCons (tgN 5) (tgCons (tgN 6) tgNil)))) (sSeq (sSet 7 (eCall sortedD1 (aCons (eLc (iRg1 (aCons (eV 6) aNil)) [8] (tgN 8) tYesF (e2 modD (eCall intD (aCons (e2 addD (eV 5) (eV 8)) aNil)) (eV 1))) aNil))) (sRet (e2 eqD (eFn (fun ds => noX (m_lit ds)) (aCons (eV 1) (aCons (eV 4) aNil))) (eCall tupleD (aCons (eLc (iRg1 (aCons (eV 1) aNil)) [9] (tgN 9) (tst (e2 ninD (eV 9) (eV 7))) (eV 9)) aNil)))))))))
abbrev n__law_is_dark_right : List Str := ["bag", "size", "lamps", "at", "rest", "begin", "many", "gone", "step", "place"]
theorem sc__law_is_dark_right : FnScope n__law_is_dark_right ["bag", "size", "lamps"] (defScope s__law_is_dark_right) := ⟨rfl, rfl, rfl, by decide +kernel, rfl, by decide +kernel, by decide +kernel⟩
theorem ok__law_is_dark_right {f : Addr} {fd : FuncData} (F : Fun K "_law_is_dark_right" "_law_is_dark_right" s__law_is_dark_right f fd) (B : Bt mg) (C__law_pick : CalleeS P w K mg base "_law_pick" 1 bagR m__law_pick) (C_dark_stretch : Callee P w K mg base "dark_stretch" 5 m_dark_stretch) (C_is_lighting : Callee P w K mg base "is_lighting" 5 m_is_lighting) (C_lit : Callee P w K mg base "lit" 5 m_lit) : FnOk P w K mg base CX0 6 f fd ["bag", "size", "lamps"] (spS bagR m__law_is_dark_right) := by
  refine F.ok sc__law_is_dark_right (fun vs H Q E h => spS_len h) (fun cdv A outer s H vs Q E hr h => ?_)
  have hu : (A.deeper (envOfC "_law_is_dark_right" (defScope s__law_is_dark_right) s.heap.objs.size f cdv)).units + 64 < cLine := hr.units
  have hu1 : (A.deeper (envOfC "_law_is_dark_right" (defScope s__law_is_dark_right) s.heap.objs.size f cdv)).units + 1 < cLine := hu_of hr
  have hu2 : (A.deeper (envOfC "_law_is_dark_right" (defScope s__law_is_dark_right) s.heap.objs.size f cdv)).units + 65 < cLine := by have := hr.un; omega
  obtain ⟨i, h⟩ := h
  exact body_endS (Rs := bagR) (Nm := n__law_is_dark_right) (n := 2) rfl (dss_cons (ds_set (hs := rfl) (hf := .inl rfl) (i := 3) sc__law_is_dark_right.nd rfl (by first | exact .inl rfl | exact .inr rfl) (de_callS (Rs := bagR) 0 C__law_pick (hr.mono (by decide)) rfl rfl (by first | exact Or.inl rfl | exact Or.inr (Or.inl rfl) | exact Or.inr (Or.inr rfl)) (by decide) (by decide) (da_cons (hs := rfl) (de_callB (hn := by decide) (hdb := by decide) (he := rfl) (hpl := rfl) (k_len (K := K) rfl) nx_len rfl B.b_len (by decide +kernel) (db_cons (hs := rfl) (dq_of (de_v 2)) db_nil)) da_nil) (by decide) rfl rfl)) (dss_cons (ds_set (hs := rfl) (hf := .inl rfl) (i := 4) sc__law_is_dark_right.nd rfl (by first | exact .inl rfl | exact .inr rfl) (de_op (k_add (K := K) rfl) nx_add (dq_of (k_slice (K := K) rfl (dq_of (de_v 2)) do_none (do_some (dq_of (de_v 3))))) (dq_of (k_slice (K := K) rfl (dq_of (de_v 2)) (do_some (dq_of (de_op (k_add (K := K) rfl) nx_add (dq_of (de_v 3)) (dq_of de_int)))) do_none)))) (dss_cons (ds_if (dt_of (dw_or (dt_cmp (k_ne (K := K) rfl hu) nx_ne (dq_of (de_callC (hdb := by decide) (he := rfl) (hpl := rfl) C_dark_stretch (hr.mono (by decide)) rfl (da_cons (hs := rfl) (de_v 1) (da_cons (hs := rfl) (de_v 4) da_nil)))) (dq_of (k_ix (hs := fun _ _ => rfl) (K := K) rfl (dq_of (de_v 2)) (dq_of (de_v 3)))) (nomark _)) (dw_or1 (dt_cmp o_isn nx_isn (dq_of (de_callC (hdb := by decide) (he := rfl) (hpl := rfl) C_is_lighting (hr.mono (by decide)) rfl (da_cons (hs := rfl) (de_v 1) (da_cons (hs := rfl) (de_v 2) (da_cons (hs := rfl) (de_tupRg (na := rfl) rfl rfl B.b_tuple (dr_2 (na := rfl) (nb := rfl) (hp := rfl) rfl B.b_range (dq_of de_int) (dq_of (de_callB (hn := by decide) (hdb := by decide) (he := rfl) (hpl := rfl) (k_len (K := K) rfl) nx_len rfl B.b_len (by decide +kernel) (db_cons (hs := rfl) (dq_of (de_v 2)) db_nil))))) da_nil))))) (dq_of de_bl) (nomark _))))) (dss_one (ds_ret de_bl)) dss_nil) (dss_cons (ds_asg (hs := rfl) (hw := rfl) (h1 := rfl) (k_ix (hs := fun _ _ => rfl) (K := K) rfl (dq_of (de_v 2)) (dq_of (de_v 3))) (ggtK (K := K) rfl rfl (by rfl) (by rfl) (tl_cons (tl_cons tl_nil)) (fun ds η w c _ => (ng_cons (ng_n 5) (ng_cons (ng_n 6) ng_nil)).2 ds η w c) (ggs (by rfl) (dg_name (i := 5) sc__law_is_dark_right.nd rfl (by first | exact .inl rfl | exact .inr rfl)) (ggs (by rfl) (dg_name (i := 6) sc__law_is_dark_right.nd rfl (by first | exact .inl rfl | exact .inr rfl)) dgs_nil)))) (dss_cons (ds_set (hs := rfl) (hf := .inl rfl) (i := 7) sc__law_is_dark_right.nd rfl (by first | exact .inl rfl | exact .inr rfl) (de_of (dn_callB (hn := by decide) (hdb := by decide) (he := rfl) (hpl := rfl) (k_sorted1 (K := K) rfl) nx_sorted1 rfl B.b_sorted (by decide +kernel) (db_cons (hs := rfl) (dq_of (de_of (dn_lc (hs := fun _ => rfl) rfl sc__law_is_dark_right.nd (g := (gName 8)) (dj_of (di_range1 (hs := rfl) rfl B.b_range (db_cons (hs := rfl) (dq_of (de_v 6)) db_nil))) (blkOk_by (own := [("step", 8)]) (N := n__law_is_dark_right) (sc := defScope s__law_is_dark_right) (by decide +kernel)) (fun _ _ _ _ _ => (dgn_name (i := 8) sc__law_is_dark_right.nd rfl (by first | exact .inl rfl | exact .inr rfl))) (ng_n 8) (by decide) (fun _ _ _ _ _ => dts_nil) (fun _ _ _ _ _ => (de_op o_mod nx_mod (dq_of (de_callTy (hn := by decide) (hdb := by decide) (he := rfl) (hpl := rfl) c_int nx_int rfl B.b_int (by decide +kernel) (db_cons (hs := rfl) (dq_of (de_op (k_add (K := K) rfl) nx_add (dq_of (de_v 5)) (dq_of (de_v 8)))) db_nil))) (dq_of (de_v 1))))))) db_nil)))) (dss_one (ds_ret (de_cmp (k_eq (K := K) rfl hu) nx_eq (dq_of (de_callC (hdb := by decide) (he := rfl) (hpl := rfl) C_lit (hr.mono (by decide)) rfl (da_cons (hs := rfl) (de_v 1) (da_cons (hs := rfl) (de_v 4) da_nil)))) (dq_of (de_callTy (hn := by decide) (hdb := by decide) (he := rfl) (hpl := rfl) (k_tuple (K := K) rfl) nx_tuple rfl B.b_tuple (by decide +kernel) (db_cons (hs := rfl) (dq_of (de_of (dn_lc (hs := fun _ => rfl) rfl sc__law_is_dark_right.nd (g := (gName 9)) (dj_of (di_range1 (hs := rfl) rfl B.b_range (db_cons (hs := rfl) (dq_of (de_v 1)) db_nil))) (blkOk_by (own := [("place", 9)]) (N := n__law_is_dark_right) (sc := defScope s__law_is_dark_right) (by decide +kernel)) (fun _ _ _ _ _ => (dgn_name (i := 9) sc__law_is_dark_right.nd rfl (by first | exact .inl rfl | exact .inr rfl))) (ng_n 9) (by decide) (fun _ _ _ _ _ => dts_one (dt_cmp (k_nin (K := K) rfl hu) nx_nin (dq_of (de_v 9)) (dq_of (de_v 7)) (by with_unfolding_all rfl))) (fun _ _ _ _ _ => (de_v 9))))) db_nil))) (nomark _))))))))) h
theorem cal__law_is_dark_right {h : Heap} (X : K.In h) (G : h.Ns mainGlobals mg) (A : FunAt K "_law_is_dark_right" s__law_is_dark_right) (B : Bt mg) (C__law_pick : CalleeS P w K mg base "_law_pick" 1 bagR m__law_pick) (C_dark_stretch : Callee P w K mg base "dark_stretch" 5 m_dark_stretch) (C_is_lighting : Callee P w K mg base "is_lighting" 5 m_is_lighting) (C_lit : Callee P w K mg base "lit" 5 m_lit) : CalleeS P w K mg base "_law_is_dark_right" 6 bagR m__law_is_dark_right := by
  obtain ⟨f, fd, a, F⟩ := A
  exact ⟨f, fd, ["bag", "size", "lamps"], ok__law_is_dark_right F B C__law_pick C_dark_stretch C_is_lighting C_lit, PySem.W.mg_of X G a, F.kp, F.binds fun _ _ _ _ _ _ us hl => match us, hl with | [_, _, _], _ => rfl⟩
abbrev s_switch_told : Stmt := topS 59
def m_switch_told : List D → Res D := runF 2 3 (sSeq (sDrop (eFn (fun ds => noX (m_check_wanted ds)) (aCons (eV 0) (aCons (eV 1) aNil)))) (sSeq (sSet 2 (eFn (fun ds => noX (m_all_shines ds)) (aCons (eV 0) aNil))) (sRet (eIf (tst (eDin false (eV 1) (eV 2))) (eTup (aCons (eC (.str "press")) (aCons (eDget (eV 2) (eV 1)) aNil))) (eTup (aCons (eC (.str "odd")) (aCons (eFn (fun ds => noX (m_least_bar ds)) (aCons (eV 0) (aCons (eV 1) aNil))) aNil)))))))
abbrev n_switch_told : List Str := ["switches", "wanted", "shines"]
theorem sc_switch_told : FnScope n_switch_told ["switches", "wanted"] (defScope s_switch_told) := ⟨rfl, rfl, rfl, by decide +kernel, rfl, by decide +kernel, by decide +kernel⟩
theorem ok_switch_told {f : Addr} {fd : FuncData} (F : Fun K "switch_told" "switch_told" s_switch_told f fd) (B : Bt mg) (C_all_shines : Callee P w K mg base "all_shines" 3 m_all_shines) (C_check_wanted : Callee P w K mg base "check_wanted" 6 m_check_wanted) (C_least_bar : Callee P w K mg base "least_bar" 3 m_least_bar) : FnOk P w K mg base CX0 7 f fd ["switches", "wanted"] (spD m_switch_told) := by
  refine F.ok sc_switch_told (fun vs H Q E h => spD_len h) (fun cdv A outer s H vs Q E hr h => ?_)
  have hu : (A.deeper (envOfC "switch_told" (defScope s_switch_told) s.heap.objs.size f cdv)).units + 64 < cLine := hr.units
  have hu1 : (A.deeper (envOfC "switch_told" (defScope s_switch_told) s.heap.objs.size f cdv)).units + 1 < cLine := hu_of hr
  have hu2 : (A.deeper (envOfC "switch_told" (defScope s_switch_told) s.heap.objs.size f cdv)).units + 65 < cLine := by have := hr.un; omega
  exact body_end (Nm := n_switch_told) (n := 2) rfl (dss_cons (ds_expr (hs := rfl) (de_callC (hdb := by decide) (he := rfl) (hpl := rfl) C_check_wanted (hr.mono (by decide)) rfl (da_cons (hs := rfl) (de_v 0) (da_cons (hs := rfl) (de_v 1) da_nil)))) (dss_cons (ds_set (hs := rfl) (hf := .inl rfl) (i := 2) sc_switch_told.nd rfl (by first | exact .inl rfl | exact .inr rfl) (de_callC (hdb := by decide) (he := rfl) (hpl := rfl) C_all_shines (hr.mono (by decide)) rfl (da_cons (hs := rfl) (de_v 0) da_nil))) (dss_one (ds_ret (de_if (dt_din (h1 := by with_unfolding_all rfl) hu1 (dq_of (de_v 1)) (dq_of (de_v 2))) (de_tup (da_cons (hs := rfl) (de_globS rfl B.g_PRESS) (da_cons (hs := rfl) (de_dget (hs := fun _ _ => rfl) hu1 (dq_of (de_v 2)) (dq_of (de_v 1))) da_nil))) (de_tup (da_cons (hs := rfl) (de_globS rfl B.g_ODD) (da_cons (hs := rfl) (de_callC (hdb := by decide) (he := rfl) (hpl := rfl) C_least_bar (hr.mono (by decide)) rfl (da_cons (hs := rfl) (de_v 0) (da_cons (hs := rfl) (de_v 1) da_nil))) da_nil)))))))) h
theorem cal_switch_told {h : Heap} (X : K.In h) (G : h.Ns mainGlobals mg) (A : FunAt K "switch_told" s_switch_told) (B : Bt mg) (C_all_shines : Callee P w K mg base "all_shines" 3 m_all_shines) (C_check_wanted : Callee P w K mg base "check_wanted" 6 m_check_wanted) (C_least_bar : Callee P w K mg base "least_bar" 3 m_least_bar) : Callee P w K mg base "switch_told" 7 m_switch_told := by
  obtain ⟨f, fd, a, F⟩ := A
  exact ⟨f, fd, ["switches", "wanted"], ok_switch_told F B C_all_shines C_check_wanted C_least_bar, PySem.W.mg_of X G a, F.kp, F.binds fun _ _ _ _ _ _ us hl => match us, hl with | [_, _], _ => rfl⟩
abbrev s__law_is_pressed_right : Stmt := topS 71
def m__law_is_pressed_right : List D → Bag → Res (D × Bag) := runS 2 9 (sSeq (sSet 3 (eCall tupleD (aCons (eLc (iSeq (eV 2)) [7] (tgN 7) tYesF (eFn (fun ds => noX (m_lit ds)) (aCons (eV 1) (aCons (eTup (aCons (eV 7) aNil)) aNil)))) aNil))) (sSeq (sSet 4 (eRgT (g1 (eCall lenD (aCons (eV 2) aNil))))) (sSeq (sIf (tOrF (tst (e2 neD (eFn (fun ds => noX (m_shine ds)) (aCons (eV 3) (aCons (eV 4) aNil))) (eRgT (g1 (eV 1))))) (tst (e2 neD (eFn (fun ds => noX (m_most_lights ds)) (aCons (eV 3) aNil)) (eV 1)))) (sRet (eC (.bool false))) sNil) (sSeq (sIf (tOrF (tst (e2 neD (eFn (fun ds => noX (m_looks_many ds)) (aCons (eV 3) aNil)) (eCall lenD (aCons (eFn (fun ds => noX (m__law_lots ds)) (aCons (eCall lenD (aCons (eV 2) aNil)) aNil)) aNil)))) (tst (e2 isnD (eFn (fun ds => noX (m_idle_press ds)) (aCons (eV 3) aNil)) (eC .none)))) (sRet (eC (.bool false))) sNil) (sSeq (sSet 5 (eFnS 0 m__law_some (aCons (eFn (fun ds => noX (m__law_lots ds)) (aCons (eCall lenD (aCons (eV 2) aNil)) aNil)) aNil))) (sSeq (sSet 6 (eFn (fun ds => noX (m_lit ds)) (aCons (eV 1) (aCons (eCall tupleD (aCons (eLc (iSeq (eV 5)) [8] (tgN 8) tYesF (e2 ixD (eV 2) (eV 8))) aNil)) aNil)))) (sRet (eAnd (e2 eqD (eFn (fun ds => noX (m_shine ds)) (aCons (eV 3) (aCons (eV 5) aNil))) (eV 6)) (e2 eqD (eFn (fun ds => noX (m_switch_told ds)) (aCons (eV 3) (aCons (eV 6) aNil))) (eTup (aCons (eC (.str "press")) (aCons (eV 5) aNil))))))))))))
abbrev n__law_is_pressed_right : List Str := ["bag", "size", "lamps", "switches", "every_now", "lot", "shining", "lamp", "at"]
theorem sc__law_is_pressed_right : FnScope n__law_is_pressed_right ["bag", "size", "lamps"] (defScope s__law_is_pressed_right) := ⟨rfl, rfl, rfl, by decide +kernel, rfl, by decide +kernel, by decide +kernel⟩
theorem ok__law_is_pressed_right {f : Addr} {fd : FuncData} (F : Fun K "_law_is_pressed_right" "_law_is_pressed_right" s__law_is_pressed_right f fd) (B : Bt mg) (C__law_lots : Callee P w K mg base "_law_lots" 1 m__law_lots) (C__law_some : CalleeS P w K mg base "_law_some" 2 bagR m__law_some) (C_idle_press : Callee P w K mg base "idle_press" 6 m_idle_press) (C_lit : Callee P w K mg base "lit" 5 m_lit) (C_looks_many : Callee P w K mg base "looks_many" 6 m_looks_many) (C_most_lights : Callee P w K mg base "most_lights" 6 m_most_lights) (C_shine : Callee P w K mg base "shine" 6 m_shine) (C_switch_told : Callee P w K mg base "switch_told" 7 m_switch_told) : FnOk P w K mg base CX0 8 f fd ["bag", "size", "lamps"] (spS bagR m__law_is_pressed_right) := by
  refine F.ok sc__law_is_pressed_right (fun vs H Q E h => spS_len h) (fun cdv A outer s H vs Q E hr h => ?_)
  have hu : (A.deeper (envOfC "_law_is_pressed_right" (defScope s__law_is_pressed_right) s.heap.objs.size f cdv)).units + 64 < cLine := hr.units
  have hu1 : (A.deeper (envOfC "_law_is_pressed_right" (defScope s__law_is_pressed_right) s.heap.objs.size f cdv)).units + 1 < cLine := hu_of hr
  have hu2 : (A.deeper (envOfC "_law_is_pressed_right" (defScope s__law_is_pressed_right) s.heap.objs.size f cdv)).units + 65 < cLine := by have := hr.un; omega
  obtain ⟨i, h⟩ := h
  exact body_endS (Rs := bagR) (Nm := n__law_is_pressed_right) (n := 2) rfl (dss_cons (ds_set (hs := rfl) (hf := .inl rfl) (i := 3) sc__law_is_pressed_right.nd rfl (by first | exact .inl rfl | exact .inr rfl) (de_callTy (hn := by decide) (hdb := by decide) (he := rfl) (hpl := rfl) (k_tuple (K := K) rfl) nx_tuple rfl B.b_tuple (by decide +kernel) (db_cons (hs := rfl) (dq_of (de_of (dn_lc (hs := fun _ => rfl) rfl sc__law_is_pressed_right.nd (g := (gName 7)) (dj_of (k_seq (K := K) rfl (de_v 2))) (blkOk_by (own := [("lamp", 7)]) (N := n__law_is_pressed_right) (sc := defScope s__law_is_pressed_right) (by decide +kernel)) (fun _ _ _ _ _ => (dgn_name (i := 7) sc__law_is_pressed_right.nd rfl (by first | exact .inl rfl | exact .inr rfl))) (ng_n 7) (by decide) (fun _ _ _ _ _ => dts_nil) (fun _ _ _ _ _ => (de_callC (hdb := by decide) (he := rfl) (hpl := rfl) C_lit (hr.mono (by decide)) rfl (da_cons (hs := rfl) (de_v 1) (da_cons (hs := rfl) (de_tup (da_cons (hs := rfl) (de_v 7) da_nil)) da_nil))))))) db_nil))) (dss_cons (ds_set (hs := rfl) (hf := .inl rfl) (i := 4) sc__law_is_pressed_right.nd rfl (by first | exact .inl rfl | exact .inr rfl) (de_tupRg (na := rfl) rfl rfl B.b_tuple (dr_1 (na := rfl) rfl B.b_range (dq_of (de_callB (hn := by decide) (hdb := by decide) (he := rfl) (hpl := rfl) (k_len (K := K) rfl) nx_len rfl B.b_len (by decide +kernel) (db_cons (hs := rfl) (dq_of (de_v 2)) db_nil)))))) (dss_cons (ds_if (dt_of (dw_or (dt_cmp (k_ne (K := K) rfl hu) nx_ne (dq_of (de_callC (hdb := by decide) (he := rfl) (hpl := rfl) C_shine (hr.mono (by decide)) rfl (da_cons (hs := rfl) (de_v 3) (da_cons (hs := rfl) (de_v 4) da_nil)))) (dq_of (de_tupRg (na := rfl) rfl rfl B.b_tuple (dr_1 (na := rfl) rfl B.b_range (dq_of (de_v 1))))) (nomark _)) (dw_or1 (dt_cmp (k_ne (K := K) rfl hu) nx_ne (dq_of (de_callC (hdb := by decide) (he := rfl) (hpl := rfl) C_most_lights (hr.mono (by decide)) rfl (da_cons (hs := rfl) (de_v 3) da_nil))) (dq_of (de_v 1)) (nomark _))))) (dss_one (ds_ret de_bl)) dss_nil) (dss_cons (ds_if (dt_of (dw_or (dt_cmp (k_ne (K := K) rfl hu) nx_ne (dq_of (de_callC (hdb := by decide) (he := rfl) (hpl := rfl) C_looks_many (hr.mono (by decide)) rfl (da_cons (hs := rfl) (de_v 3) da_nil))) (dq_of (de_callB (hn := by decide) (hdb := by decide) (he := rfl) (hpl := rfl) (k_len (K := K) rfl) nx_len rfl B.b_len (by decide +kernel) (db_cons (hs := rfl) (dq_of (de_callC (hdb := by decide) (he := rfl) (hpl := rfl) C__law_lots (hr.mono (by decide)) rfl (da_cons (hs := rfl) (de_callB (hn := by decide) (hdb := by decide) (he := rfl) (hpl := rfl) (k_len (K := K) rfl) nx_len rfl B.b_len (by decide +kernel) (db_cons (hs := rfl) (dq_of (de_v 2)) db_nil)) da_nil))) db_nil))) (nomark _)) (dw_or1 (dt_cmp o_isn nx_isn (dq_of (de_callC (hdb := by decide) (he := rfl) (hpl := rfl) C_idle_press (hr.mono (by decide)) rfl (da_cons (hs := rfl) (de_v 3) da_nil))) (dq_of de_non) (nomark _))))) (dss_one (ds_ret de_bl)) dss_nil) (dss_cons (ds_set (hs := rfl) (hf := .inl rfl) (i := 5) sc__law_is_pressed_right.nd rfl (by first | exact .inl rfl | exact .inr rfl) (de_callS (Rs := bagR) 0 C__law_some (hr.mono (by decide)) rfl rfl (by first | exact Or.inl rfl | exact Or.inr (Or.inl rfl) | exact Or.inr (Or.inr rfl)) (by decide) (by decide) (da_cons (hs := rfl) (de_callC (hdb := by decide) (he := rfl) (hpl := rfl) C__law_lots (hr.mono (by decide)) rfl (da_cons (hs := rfl) (de_callB (hn := by decide) (hdb := by decide) (he := rfl) (hpl := rfl) (k_len (K := K) rfl) nx_len rfl B.b_len (by decide +kernel) (db_cons (hs := rfl) (dq_of (de_v 2)) db_nil)) da_nil)) da_nil) (by decide) rfl rfl)) (dss_cons (ds_set (hs := rfl) (hf := .inl rfl) (i := 6) sc__law_is_pressed_right.nd rfl (by first | exact .inl rfl | exact .inr rfl) (de_callC (hdb := by decide) (he := rfl) (hpl := rfl) C_lit (hr.mono (by decide)) rfl (da_cons (hs := rfl) (de_v 1) (da_cons (hs := rfl) (de_callTy (hn := by decide) (hdb := by decide) (he := rfl) (hpl := rfl) (k_tuple (K := K) rfl) nx_tuple rfl B.b_tuple (by decide +kernel) (db_cons (hs := rfl) (dq_of (de_of (dn_lc (hs := fun _ => rfl) rfl sc__law_is_pressed_right.nd (g := (gName 8)) (dj_of (k_seq (K := K) rfl (de_v 5))) (blkOk_by (own := [("at", 8)]) (N := n__law_is_pressed_right) (sc := defScope s__law_is_pressed_right) (by decide +kernel)) (fun _ _ _ _ _ => (dgn_name (i := 8) sc__law_is_pressed_right.nd rfl (by first | exact .inl rfl | exact .inr rfl))) (ng_n 8) (by decide) (fun _ _ _ _ _ => dts_nil) (fun _ _ _ _ _ => (k_ix (hs := fun _ _ => rfl) (K := K) rfl (dq_of (de_v 2)) (dq_of (de_v 8))))))) db_nil)) da_nil)))) (dss_one (ds_ret (de_and (de_cmp (k_eq (K := K) rfl hu) nx_eq (dq_of (de_callC (hdb := by decide) (he := rfl) (hpl := rfl) C_shine (hr.mono (by decide)) rfl (da_cons (hs := rfl) (de_v 3) (da_cons (hs := rfl) (de_v 5) da_nil)))) (dq_of (de_v 6)) (nomark _)) (de_one (de_cmp (k_eq (K := K) rfl hu) nx_eq (dq_of (de_callC (hdb := by decide) (he := rfl) (hpl := rfl) C_switch_told (hr.mono (by decide)) rfl (da_cons (hs := rfl) (de_v 3) (da_cons (hs := rfl) (de_v 6) da_nil)))) (dq_of (de_tup (da_cons (hs := rfl) de_str (da_cons (hs := rfl) (de_v 5) da_nil)))) (nomark _)))))))))))) h
theorem cal__law_is_pressed_right {h : Heap} (X : K.In h) (G : h.Ns mainGlobals mg) (A : FunAt K "_law_is_pressed_right" s__law_is_pressed_right) (B : Bt mg) (C__law_lots : Callee P w K mg base "_law_lots" 1 m__law_lots) (C__law_some : CalleeS P w K mg base "_law_some" 2 bagR m__law_some) (C_idle_press : Callee P w K mg base "idle_press" 6 m_idle_press) (C_lit : Callee P w K mg base "lit" 5 m_lit) (C_looks_many : Callee P w K mg base "looks_many" 6 m_looks_many) (C_most_lights : Callee P w K mg base "most_lights" 6 m_most_lights) (C_shine : Callee P w K mg base "shine" 6 m_shine) (C_switch_told : Callee P w K mg base "switch_told" 7 m_switch_told) : CalleeS P w K mg base "_law_is_pressed_right" 8 bagR m__law_is_pressed_right := by
  obtain ⟨f, fd, a, F⟩ := A
  exact ⟨f, fd, ["bag", "size", "lamps"], ok__law_is_pressed_right F B C__law_lots C__law_some C_idle_press C_lit C_looks_many C_most_lights C_shine C_switch_told, PySem.W.mg_of X G a, F.kp, F.binds fun _ _ _ _ _ _ us hl => match us, hl with | [_, _, _], _ => rfl⟩
abbrev s_law : Stmt := topS 73
def g_law : FS Bag := (sSeq (sIf (tOrF (tst (e2 neD (eFn (fun ds => noX (m_lit ds)) (aCons (eC (.int 4)) (aCons (eTup (aCons (eTup (aCons (eC (.int 3)) (aCons (eC (.int 2)) aNil))) aNil)) aNil))) (eTup (aCons (eC (.int 0)) (aCons (eC (.int 3)) aNil))))) (tOrF (tst (e2 neD (eFn (fun ds => noX (m_evenly ds)) (aCons (eC (.int 4)) (aCons (eC (.int 2)) aNil))) (eTup (aCons (eC (.int 0)) (aCons (eC (.int 1)) (aCons (eC (.int 0)) (aCons (eC (.int 1)) aNil))))))) (tst (e2 neD (eFn (fun ds => noX (m_shine ds)) (aCons (eTup (aCons (eTup (aCons (eC (.int 0)) (aCons (eC (.int 1)) aNil))) (aCons (eTup (aCons (eC (.int 1)) (aCons (eC (.int 2)) aNil))) aNil))) (aCons (eTup (aCons (eC (.int 0)) (aCons (eC (.int 1)) aNil))) aNil))) (eTup (aCons (eC (.int 0)) (aCons (eC (.int 2)) aNil))))))) (sRet (eC (.bool false))) sNil) (sSeq (sFor (iRg1 (aCons (eC (.int 5)) aNil)) (tgN 2) (sSeq (sSet 3 (e2 addD (eC (.int 3)) (eFnS 1 m__law_pick (aCons (eC (.int 7)) aNil)))) (sSeq (sSet 4 (eFn (fun ds => noX (m_evenly ds)) (aCons (eV 3) (aCons (e2 addD (eC (.int 2)) (eFnS 1 m__law_pick (aCons (eCall minD1 (aCons (e2 subD (eV 3) (eC (.int 2))) (aCons (eC (.int 6)) aNil))) aNil))) aNil)))) (sSeq (sSet 5 (eFnS 1 m__law_pick (aCons (eV 3) aNil))) (sSeq (sSet 4 (e2 addD (eSlice (eV 4) (oSome (eV 5)) oNone) (eSlice (eV 4) oNone (oSome (eV 5))))) (sSeq (sSet 6 (eFn (fun ds => noX (m__law_lamps ds)) (aCons (eV 4) aNil))) (sSeq (sIf (tOrF (tNotF (tst (eFn (fun ds => noX (m__law_is_lit_right ds)) (aCons (eV 3) (aCons (eV 4) (aCons (eV 6) aNil)))))) (tNotF (tst (eFnS 1 m__law_is_dark_right (aCons (eV 3) (aCons (eV 6) aNil)))))) (sRet (eC (.bool false))) sNil) (sIf (tNotF (tst (eFnS 1 m__law_is_pressed_right (aCons (eV 3) (aCons (eV 6) aNil))))) (sRet (eC (.bool false))) sNil)))))))) (sRet (eC (.bool true)))))
abbrev n_law : List Str := ["script", "bag", "lap", "size", "row", "by", "lamps"]
theorem sc_law : FnScope n_law ["script"] (defScope s_law) := ⟨rfl, rfl, rfl, by decide +kernel, rfl, by decide +kernel, by decide +kernel⟩
theorem ok_law {f : Addr} {fd : FuncData} (F : Fun K "law" "law" s_law f fd) (B : Bt mg) (C__law_is_dark_right : CalleeS P w K mg base "_law_is_dark_right" 6 bagR m__law_is_dark_right) (C__law_is_lit_right : Callee P w K mg base "_law_is_lit_right" 6 m__law_is_lit_right) (C__law_is_pressed_right : CalleeS P w K mg base "_law_is_pressed_right" 8 bagR m__law_is_pressed_right) (C__law_lamps : Callee P w K mg base "_law_lamps" 1 m__law_lamps) (C__law_pick : CalleeS P w K mg base "_law_pick" 1 bagR m__law_pick) (C_evenly : Callee P w K mg base "evenly" 1 m_evenly) (C_lit : Callee P w K mg base "lit" 5 m_lit) (C_shine : Callee P w K mg base "shine" 6 m_shine) {fB : Addr} {fdB : FuncData} (GB : FnOk P w K mg base CX0 1 fB fdB ["script"] (spBag K)) (gB : mg "_law_bag" = some (.ref fB)) (kB : PySem.W.keepIn K (.ref fB) = true) (bB : Binds K fdB ["script"] []) (good : ∀ b : Bag, ∃ b', g_law (Slot.un :: Slot.hd :: List.replicate 5 Slot.un) b = .ok (.rt (.bool true), b')) : FnOk P w K mg base CX0 9 f fd ["script"] (spLaw K) := by
  refine F.ok sc_law (fun vs H Q E h => by obtain ⟨a, ns, rfl, _⟩ := h; rfl) (fun cdv A outer s H vs Q E hr h => ?_)
  have hu : (A.deeper (envOfC "law" (defScope s_law) s.heap.objs.size f cdv)).units + 64 < cLine := hr.units
  have hu1 : (A.deeper (envOfC "law" (defScope s_law) s.heap.objs.size f cdv)).units + 1 < cLine := hu_of hr
  have hu2 : (A.deeper (envOfC "law" (defScope s_law) s.heap.objs.size f cdv)).units + 65 < cLine := by have := hr.un; omega
  have rest : ∃ t, ∀ i, DSs (cxOf CX0 P w K mg base n_law "law" (defScope s_law) f cdv A outer s H E).nox (bagR i) ((defBody s_law).drop 1) t g_law := ⟨_, fun i => (dss_cons (ds_if (dt_of (dw_or (dt_cmp (k_ne (K := K) rfl hu) nx_ne (dq_of (de_callC (hdb := by decide) (he := rfl) (hpl := rfl) C_lit (hr.mono (by decide)) rfl (da_cons (hs := rfl) de_int (da_cons (hs := rfl) (de_tup (da_cons (hs := rfl) (de_tup (da_cons (hs := rfl) de_int (da_cons (hs := rfl) de_int da_nil))) da_nil)) da_nil)))) (dq_of (de_tup (da_cons (hs := rfl) de_int (da_cons (hs := rfl) de_int da_nil)))) (nomark _)) (dw_or (dt_cmp (k_ne (K := K) rfl hu) nx_ne (dq_of (de_callC (hdb := by decide) (he := rfl) (hpl := rfl) C_evenly (hr.mono (by decide)) rfl (da_cons (hs := rfl) de_int (da_cons (hs := rfl) de_int da_nil)))) (dq_of (de_tup (da_cons (hs := rfl) de_int (da_cons (hs := rfl) de_int (da_cons (hs := rfl) de_int (da_cons (hs := rfl) de_int da_nil)))))) (nomark _)) (dw_or1 (dt_cmp (k_ne (K := K) rfl hu) nx_ne (dq_of (de_callC (hdb := by decide) (he := rfl) (hpl := rfl) C_shine (hr.mono (by decide)) rfl (da_cons (hs := rfl) (de_tup (da_cons (hs := rfl) (de_tup (da_cons (hs := rfl) de_int (da_cons (hs := rfl) de_int da_nil))) (da_cons (hs := rfl) (de_tup (da_cons (hs := rfl) de_int (da_cons (hs := rfl) de_int da_nil))) da_nil))) (da_cons (hs := rfl) (de_tup (da_cons (hs := rfl) de_int (da_cons (hs := rfl) de_int da_nil))) da_nil)))) (dq_of (de_tup (da_cons (hs := rfl) de_int (da_cons (hs := rfl) de_int da_nil)))) (nomark _)))))) (dss_one (ds_ret de_bl)) dss_nil) (dss_cons (ds_for (hs := fun _ => rfl) PassesOwn.never rfl (di_range1 (hs := rfl) rfl B.b_range (db_cons (hs := rfl) (dq_of de_int) db_nil)) (dg_name (i := 2) sc_law.nd rfl (by first | exact .inl rfl | exact .inr rfl)) (dss_cons (ds_set (hs := rfl) (hf := .inl rfl) (i := 3) sc_law.nd rfl (by first | exact .inl rfl | exact .inr rfl) (de_op (k_add (K := K) rfl) nx_add (dq_of de_int) (dq_of (de_callS (Rs := bagR) 1 C__law_pick (hr.mono (by decide)) rfl rfl (by first | exact Or.inl rfl | exact Or.inr (Or.inl rfl) | exact Or.inr (Or.inr rfl)) (by decide) (by decide) (da_cons (hs := rfl) de_int da_nil) (by decide) rfl rfl)))) (dss_cons (ds_set (hs := rfl) (hf := .inl rfl) (i := 4) sc_law.nd rfl (by first | exact .inl rfl | exact .inr rfl) (de_callC (hdb := by decide) (he := rfl) (hpl := rfl) C_evenly (hr.mono (by decide)) rfl (da_cons (hs := rfl) (de_v 3) (da_cons (hs := rfl) (de_op (k_add (K := K) rfl) nx_add (dq_of de_int) (dq_of (de_callS (Rs := bagR) 1 C__law_pick (hr.mono (by decide)) rfl rfl (by first | exact Or.inl rfl | exact Or.inr (Or.inl rfl) | exact Or.inr (Or.inr rfl)) (by decide) (by decide) (da_cons (hs := rfl) (de_callB (hn := by decide) (hdb := by decide) (he := rfl) (hpl := rfl) (k_min1 (K := K) rfl rfl) nx_min1 rfl B.b_min (by decide +kernel) (db_cons (hs := rfl) (dq_of (de_op o_sub nx_i2 (dq_of (de_v 3)) (dq_of de_int))) (db_cons (hs := rfl) (dq_of de_int) db_nil))) da_nil) (by decide) rfl rfl))) da_nil)))) (dss_cons (ds_set (hs := rfl) (hf := .inl rfl) (i := 5) sc_law.nd rfl (by first | exact .inl rfl | exact .inr rfl) (de_callS (Rs := bagR) 1 C__law_pick (hr.mono (by decide)) rfl rfl (by first | exact Or.inl rfl | exact Or.inr (Or.inl rfl) | exact Or.inr (Or.inr rfl)) (by decide) (by decide) (da_cons (hs := rfl) (de_v 3) da_nil) (by decide) rfl rfl)) (dss_cons (ds_set (hs := rfl) (hf := .inl rfl) (i := 4) sc_law.nd rfl (by first | exact .inl rfl | exact .inr rfl) (de_op (k_add (K := K) rfl) nx_add (dq_of (k_slice (K := K) rfl (dq_of (de_v 4)) (do_some (dq_of (de_v 5))) do_none)) (dq_of (k_slice (K := K) rfl (dq_of (de_v 4)) do_none (do_some (dq_of (de_v 5))))))) (dss_cons (ds_set (hs := rfl) (hf := .inl rfl) (i := 6) sc_law.nd rfl (by first | exact .inl rfl | exact .inr rfl) (de_callC (hdb := by decide) (he := rfl) (hpl := rfl) C__law_lamps (hr.mono (by decide)) rfl (da_cons (hs := rfl) (de_v 4) da_nil))) (dss_cons (ds_if (dt_of (dw_or (dt_not (dt_val (he := fun _ => rfl) (de_callC (hdb := by decide) (he := rfl) (hpl := rfl) C__law_is_lit_right (hr.mono (by decide)) rfl (da_cons (hs := rfl) (de_v 3) (da_cons (hs := rfl) (de_v 4) (da_cons (hs := rfl) (de_v 6) da_nil)))))) (dw_or1 (dt_not (dt_val (he := fun _ => rfl) (de_callS (Rs := bagR) 1 C__law_is_dark_right (hr.mono (by decide)) rfl rfl (by first | exact Or.inl rfl | exact Or.inr (Or.inl rfl) | exact Or.inr (Or.inr rfl)) (by decide) (by decide) (da_cons (hs := rfl) (de_v 3) (da_cons (hs := rfl) (de_v 6) da_nil)) (by decide) rfl rfl)))))) (dss_one (ds_ret de_bl)) dss_nil) (dss_one (ds_if (dt_not (dt_val (he := fun _ => rfl) (de_callS (Rs := bagR) 1 C__law_is_pressed_right (hr.mono (by decide)) rfl rfl (by first | exact Or.inl rfl | exact Or.inr (Or.inl rfl) | exact Or.inr (Or.inr rfl)) (by decide) (by decide) (da_cons (hs := rfl) (de_v 3) (da_cons (hs := rfl) (de_v 6) da_nil)) (by decide) rfl rfl))) (dss_one (ds_ret de_bl)) dss_nil))))))))) (dss_one (ds_ret de_bl))))⟩
  obtain ⟨t, rest⟩ := rest
  obtain ⟨a, ns, rfl, hS, hn, q⟩ := h
  refine ⟨_, pss_cons (ps_set (i := 1) sc_law.nd rfl (by first | exact .inl rfl | exact .inr rfl) (pe_call GB (hr.mono (by decide)) (by rfl) gB kB bB .nil pass0 (pa_cons (pv 0) pa_nil))) (rest (0, 0)).ps, ?_⟩
  refine ⟨_, rfl, a, ns, rfl, hS, hn, fun H' p g b sm np ng hb => ?_⟩
  obtain ⟨b', e⟩ := good b
  refine (rest (p, g)).rf _ _ b _ _ H' (law_start hb 5) _ ?_
  rw [e]
  exact fun v F' H2 _ _ hv => by cases hv; exact q H2

end
end Lw

namespace Lw
open PySem PySem.Spec PyProof.Rows L2 Cw
theorem places_ok {s b k : Nat} (hs : 0 < s) (hk : k ≤ 1000000) : m_places_of [iD s, eP (b, k)] = .ok (.list ((List.range k).map fun t => iD ((b + t) % s))) := by
  refine runF_rt rfl (sRet_ok (eLc_ok (iRg1_ok (e2_ok rfl rfl rfl) hk) ?_))
  rw [lcL_map (fun d => match d with | .int (.ofNat t) => some (iD ((b + t) % s)) | _ => none) _ fun d hd => by
    obtain ⟨t, _, rfl⟩ := List.mem_map.mp hd
    refine ⟨rfl, fun y hy => ?_⟩
    cases hy
    exact e2_ok (e2_ok (e2_ok rfl rfl rfl) rfl rfl) rfl (modD_nat hs)]
  rw [List.filterMap_map]
  exact congrArg (fun l => Res.ok (l, ())) (filterMap_all _ _)
end Lw
namespace Lw
open PySem PySem.Spec PyProof.Rows L2 Cw
theorem ixD_map {c : List Nat} {p : Nat} (h : p < c.length) : ixD (.list (c.map iD)) (iD p) = .ok (iD (c.getD p 0)) := by
  rw [ixD_list (by simpa using h)]
  simp [h]
def bump (c : List Nat) (p : Nat) : List Nat := c.set p (c.getD p 0 + 1)
def cnt1 (s : Nat) (c : List Nat) (l : Nat × Nat) : List Nat := (List.range l.2).foldl (fun c t => bump c ((l.1 + t) % s)) c
def cnt (s : Nat) (ls : List (Nat × Nat)) : List Nat := ls.foldl (cnt1 s) (List.replicate s 0)
theorem bump_len (c : List Nat) (p : Nat) : (bump c p).length = c.length := List.length_set
def CP (s : Nat) (LD : D) (c : List Nat) (η : EnvD) : Prop := c.length = s ∧ ∃ a3 a4, η = [.fr (iD s), .fr LD, .ow (.list (c.map iD)), a3, a4]
def st1 (c : List Nat) (d : D) : List Nat := match pN d with
  | some p => bump c p
  | none => c
def st2 (s : Nat) (c : List Nat) (d : D) : List Nat := match pP d with
  | some l => cnt1 s c l
  | none => c
theorem rep0 {s : Nat} (h : s ≤ 1000) : repD (.list [.int 0]) (iD s) = .ok (.list ((List.replicate s 0).map iD)) := by
  unfold repD iD
  dsimp only
  rw [decide_eq_true (show (0 : Int) ≤ s by omega), decide_eq_true (show (s : Int) ≤ 1000 by omega), okLen_of (by simp; omega)]
  simp
theorem counts_ok {s : Nat} {ls : List (Nat × Nat)} {LD : D} (hs : 0 < s) (hs2 : s ≤ 1000) (hl : ls.length ≤ 1000000) (hk : ∀ l ∈ ls, l.2 ≤ 1000000) (hLD : LD = .tuple (ls.map eP) ∨ LD = .list (ls.map eP)) : m_counts_of [iD s, LD] = .ok (.list ((cnt s ls).map iD)) := by
  have hit : ∀ a2 a3 a4, iSeq (eV 1) [.fr (iD s), .fr LD, a2, a3, a4] () = .ok (ls.map eP, ()) := fun a2 a3 a4 => by
    rcases hLD with rfl | rfl
    · exact iSeq_tup rfl (okLen_of (by simpa using hl))
    · exact iSeq_list rfl (okLen_of (by simpa using hl))
  obtain ⟨η', e, hc, a3, a4, rfl⟩ := forL_inv (tg := tgN 3) (g := sFor (iSeq (eFn (fun ds => noX (m_places_of ds)) (aCons (eV 0) (aCons (eV 3) aNil)))) (tgN 4) (sAsg (e2 addD (e2 ixD (eVq 2) (eV 4)) (eC (.int 1))) (tgSub 2 (eV 4)))) (w := ()) (CP s LD) (st2 s) (ls.map eP) (List.replicate s 0) [.fr (iD s), .fr LD, .ow (.list ((List.replicate s 0).map iD)), .un, .un] (fun d hd c η hP => by
      obtain ⟨⟨b, k⟩, hm, rfl⟩ := List.mem_map.mp hd
      obtain ⟨hc, a3, a4, rfl⟩ := hP
      have hk' := hk _ hm
      obtain ⟨η2, e2, hP2⟩ := forL_inv (tg := tgN 4) (g := sAsg (e2 addD (e2 ixD (eVq 2) (eV 4)) (eC (.int 1))) (tgSub 2 (eV 4))) (w := ()) (CP s LD) st1 ((List.range k).map fun t => iD ((b + t) % s)) c [.fr (iD s), .fr LD, .ow (.list (c.map iD)), .fr (eP (b, k)), a4] (fun d hd c η hP => by
        obtain ⟨t, _, rfl⟩ := List.mem_map.mp hd
        obtain ⟨hc, a3, a4, rfl⟩ := hP
        have hp : (b + t) % s < c.length := by rw [hc]; exact Nat.mod_lt _ hs
        refine ⟨_, asg_sub (k := (b + t) % s) (xs := c.map iD) (e2_ok (e2_ok rfl rfl (ixD_map hp)) rfl (addD_nat _ 1)) rfl rfl (by simpa using hp), (bump_len _ _).trans hc, a3, .fr (iD ((b + t) % s)), ?_⟩
        rw [show st1 c (iD ((b + t) % s)) = bump c ((b + t) % s) from rfl]
        unfold bump
        rw [List.map_set]
        rfl) ⟨hc, _, _, rfl⟩
      refine ⟨η2, sFor_ok (iSeq_list (eFn_ok (aCons_ok rfl (aCons_ok rfl rfl)) (d := .list ((List.range k).map fun t => iD ((b + t) % s))) ?_) (okLen_of (by simpa using hk'))) e2, ?_⟩
      · have := places_ok (b := b) hs hk'
        rw [this]; rfl
      · have z : st2 s c (eP (b, k)) = List.foldl st1 c ((List.range k).map fun t => iD ((b + t) % s)) := by
          rw [List.foldl_map]; rfl
        rw [z]; exact hP2) ⟨by simp, _, _, rfl⟩
  have z : List.foldl (st2 s) (List.replicate s 0) (ls.map eP) = cnt s ls := by rw [List.foldl_map]; rfl
  rw [z] at e
  exact runF_rt rfl (sSeq_ok (sSetN_ok (e2_ok rfl rfl (rep0 hs2))) (sSeq_ok (sFor_ok (hit _ _ _) e) rfl))
end Lw

namespace Lw
open PySem PySem.Spec PyProof.Rows L2 Cw
theorem lcL_mapG {W : Type} {own : List Nat} {tg : TgF W} {ft : FT W} {fe : FE W} {η : EnvD} {w : W} (g : D → Option D) : ∀ (ds : List D),
    (∀ d ∈ ds, ∃ η1, tg d (wipeD η own) w = .ok (η1, w) ∧ ft η1 w = .ok ((g d).isSome, w) ∧ ∀ y, g d = some y → fe η1 w = .ok (y, w)) → lcL own tg ft fe ds η w = .ok (ds.filterMap g, w)
  | [], h => rfl
  | d :: r, h => by
    obtain ⟨η1, h0, h1, h2⟩ := h d (List.mem_cons_self ..)
    have ih := lcL_mapG (own := own) (tg := tg) (ft := ft) (fe := fe) (η := η) (w := w) g r fun d hd => h d (List.mem_cons_of_mem _ hd)
    show Cw.bindM (tg d (wipeD η own) w) _ = _
    rw [h0]
    show Cw.bindM (ft η1 w) _ = _
    rw [h1]
    cases e : g d with
    | none => rw [List.filterMap_cons_none e]; exact ih
    | some y =>
      rw [List.filterMap_cons_some e]
      show Cw.bindM (fe η1 w) _ = _
      rw [h2 y e]
      show Cw.bindM (lcL own tg ft fe r η w) _ = _
      rw [ih]; rfl
def bD (b : Bool) : D := .bool b
def tog (c : List Bool) (p : Nat) : List Bool := c.set p (!c.getD p false)
theorem tog_len (c : List Bool) (p : Nat) : (tog c p).length = c.length := List.length_set
def shn (sw : List (List Nat)) (pr : List Nat) : List Bool := pr.foldl (fun c p => (sw.getD p []).foldl tog c) (List.replicate 10 false)
def onG (d : D) : Option D := match d with
  | .tuple [i, .bool true] => some i
  | _ => none
theorem enumL_mem (c : List Bool) : ∀ (i : Int) (d : D), d ∈ enumL i (c.map bD) → ∃ j b, d = .tuple [.int j, .bool b] := by
  induction c with
  | nil => intro i d h; cases h
  | cons a r ih =>
    intro i d h
    rcases List.mem_cons.mp h with h | h
    · exact ⟨i, a, h⟩
    · exact ih (i + 1) d h
theorem enumL_length (ds : List D) : ∀ i : Int, (enumL i ds).length = ds.length := fun i => enumL_len ds i
theorem ixD_mapB {c : List Bool} {p : Nat} (h : p < c.length) : ixD (.list (c.map bD)) (iD p) = .ok (bD (c.getD p false)) := by
  rw [ixD_list (by simpa using h)]
  simp [h]
def SP (SW PR : D) (c : List Bool) (η : EnvD) : Prop := c.length = 10 ∧ ∃ a3 a4 a5, η = [.fr SW, .fr PR, .ow (.list (c.map bD)), a3, a4, a5]
def su1 (c : List Bool) (d : D) : List Bool := match pN d with
  | some p => tog c p
  | none => c
def su2 (sw : List (List Nat)) (c : List Bool) (d : D) : List Bool := match pN d with
  | some p => (sw.getD p []).foldl tog c
  | none => c
theorem raw_shine_ok {sw : List (List Nat)} {pr : List Nat} (hpl : pr.length ≤ 1000000) (hp : ∀ p ∈ pr, p < sw.length) (hl : ∀ l ∈ sw, l.length ≤ 1000000 ∧ ∀ x ∈ l, x < 10) : m_raw_shine [.tuple (sw.map eLt), .tuple (pr.map iD)] = .ok (.tuple ((enumL 0 ((shn sw pr).map bD)).filterMap onG)) := by
  generalize hSW : PyData.tuple (sw.map eLt) = SW
  generalize hPR : PyData.tuple (pr.map iD) = PR
  obtain ⟨η', e, hc, a3, a4, a5, rfl⟩ := forL_inv (tg := tgN 3) (g := sFor (iSeq (e2 ixD (eV 0) (eV 3))) (tgN 4) (sAsg (eNot (e2 ixD (eVq 2) (eV 4))) (tgSub 2 (eV 4)))) (w := ()) (SP SW PR) (su2 sw) (pr.map iD) (List.replicate 10 false) [.fr SW, .fr PR, .ow (.list ((List.replicate 10 false).map bD)), .un, .un, .un] (fun d hd c η hP => by
      obtain ⟨p, hm, rfl⟩ := List.mem_map.mp hd
      obtain ⟨hc, a3, a4, a5, rfl⟩ := hP
      have hp' := hp _ hm
      obtain ⟨hl1, hl2⟩ := hl (sw[p]) (List.getElem_mem _)
      obtain ⟨η2, e2', hP2⟩ := forL_inv (tg := tgN 4) (g := sAsg (eNot (e2 ixD (eVq 2) (eV 4))) (tgSub 2 (eV 4))) (w := ()) (SP SW PR) su1 ((sw[p]).map iD) c [.fr SW, .fr PR, .ow (.list (c.map bD)), .fr (iD p), a4, a5] (fun d hd c η hP => by
        obtain ⟨x, hx, rfl⟩ := List.mem_map.mp hd
        obtain ⟨hc, a3, a4, a5, rfl⟩ := hP
        have hx' : x < c.length := by rw [hc]; exact hl2 x hx
        have hn : eNot (e2 ixD (eVq 2) (eV 4)) [.fr SW, .fr PR, .ow (.list (c.map bD)), a3, .fr (iD x), a5] () = .ok (bD (!c.getD x false), ()) := by
          unfold eNot
          rw [e2_ok (η := [.fr SW, .fr PR, .ow (.list (c.map bD)), a3, .fr (iD x), a5]) (w := ()) (fa := eVq 2) (fb := eV 4) rfl rfl (ixD_mapB hx')]
          rfl
        refine ⟨_, asg_sub (k := x) (xs := c.map bD) hn rfl rfl (by simpa using hx'), (tog_len _ _).trans hc, a3, .fr (iD x), a5, ?_⟩
        rw [show su1 c (iD x) = tog c x from rfl]
        unfold tog
        rw [List.map_set]
        rfl) ⟨hc, _, _, _, rfl⟩
      refine ⟨η2, sFor_ok (iSeq_tup (ds := (sw[p]).map iD) (e2_ok rfl rfl ?_) (okLen_of (by simpa using hl1))) e2', ?_⟩
      · rw [← hSW, ixD_tup (xs := sw.map eLt) (by simpa using hp')]
        simp [eLt]
      · have z : su2 sw c (iD p) = List.foldl su1 c ((sw[p]).map iD) := by
          rw [List.foldl_map]
          show (sw.getD p []).foldl tog c = _
          rw [show sw.getD p [] = sw[p] by simp [hp']]
          rfl
        rw [z]; exact hP2) ⟨by simp, _, _, _, rfl⟩
  have z : List.foldl (su2 sw) (List.replicate 10 false) (pr.map iD) = shn sw pr := by rw [List.foldl_map]; rfl
  rw [z] at e hc
  refine runF_rt rfl (sSeq_ok (sSetN_ok rfl) (sSeq_ok (sFor_ok (iSeq_tup (ds := pr.map iD) (by rw [← hPR]; rfl) (okLen_of (by simpa using hpl))) e) ?_))
  show sRet _ [.fr SW, .fr PR, .fr (.list ((shn sw pr).map bD)), a3, a4, a5] () = _
  refine sRet_ok (eCall_ok (aCons_ok (eLc_ok (ds := enumL 0 ((shn sw pr).map bD)) ?_ (lcL_mapG onG _ fun d hd => ?_)) rfl) rfl)
  · show (match okLen ((shn sw pr).map bD).length with | true => _ | false => _) = _
    rw [okLen_of (by simp [hc])]
  · obtain ⟨j, b, rfl⟩ := enumL_mem _ _ _ hd
    refine ⟨_, rfl, ?_, fun y hy => ?_⟩
    · cases b <;> rfl
    · cases b
      · cases hy
      · cases hy; rfl
end Lw

namespace Lw
open PySem PySem.Spec PyProof.Rows L2 Cw
def fcnt (s : Nat) (xs : List D) (alt : Res D) : Res D := match pL pP xs with
  | some ls => match Nat.blt 0 s && (Nat.ble s 1000 && (Nat.ble ls.length 1000000 && ls.all fun l => Nat.ble l.2 1000000)) with
    | true => .ok (.list ((cnt s ls).map iD))
    | false => alt
  | none => alt
def v_counts_of (ds : List D) : Res D := match ds with
  | [.int (.ofNat s), .tuple xs] => fcnt s xs (m_counts_of ds)
  | [.int (.ofNat s), .list xs] => fcnt s xs (m_counts_of ds)
  | _ => m_counts_of ds
theorem fcnt_eq {s : Nat} {xs : List D} {LD : D} {alt : Res D} (hLD : LD = .tuple xs ∨ LD = .list xs) (h : m_counts_of [iD s, LD] = alt) : alt = fcnt s xs alt := by
  unfold fcnt
  split
  · rename_i ls hls
    have e := pL_eq (fun _ _ => pP_eq) hls
    split
    · rename_i hc
      simp only [Bool.and_eq_true, List.all_eq_true, Nat.ble_eq, Nat.blt_eq] at hc
      rw [← h]
      exact counts_ok hc.1 hc.2.1 hc.2.2.1 hc.2.2.2 (by rw [← e]; exact hLD)
    · rfl
  · rfl
theorem ve_counts_of : m_counts_of = v_counts_of := by
  funext ds
  unfold v_counts_of
  split
  · exact fcnt_eq (.inl rfl) rfl
  · exact fcnt_eq (.inr rfl) rfl
  · rfl
def fshn (xs ys : List D) (alt : Res D) : Res D := match pL pLt xs, pL pN ys with
  | some sw, some pr => match Nat.ble pr.length 1000000 && (pr.all fun p => Nat.blt p sw.length) && (sw.all fun l => Nat.ble l.length 1000000 && l.all fun x => Nat.blt x 10) with
    | true => .ok (.tuple ((enumL 0 ((shn sw pr).map bD)).filterMap onG))
    | false => alt
  | _, _ => alt
def v_raw_shine (ds : List D) : Res D := match ds with
  | [.tuple xs, .tuple ys] => fshn xs ys (m_raw_shine ds)
  | _ => m_raw_shine ds
theorem ve_raw_shine : m_raw_shine = v_raw_shine := by
  funext ds
  unfold v_raw_shine
  split
  · rename_i xs ys
    unfold fshn
    split
    · rename_i sw pr h1 h2
      have e1 := pL_eq (fun _ _ => pLt_eq) h1
      have e2 := pL_eq (fun _ _ => pN_eq) h2
      split
      · rename_i hc
        simp only [Bool.and_eq_true, List.all_eq_true, Nat.ble_eq, Nat.blt_eq] at hc
        rw [e1, e2]
        exact raw_shine_ok hc.1.1 hc.1.2 hc.2
      · rfl
    · rfl
  · rfl
/-- all lots of so many things, by size -/
def lotsN (many : Nat) : Nat → List (List Nat)
  | 0 => [[]]
  | k + 1 => (lotsN many k).flatMap fun lot => ((List.range many).filter fun x => match lot.getLast? with | some y => Nat.blt y x | none => true).map fun x => lot ++ [x]
def allN (many : Nat) : List (List Nat) := (List.range (many + 1)).flatMap (lotsN many)
def pOk (r : Res D) : Option (List (List Nat)) := match r with
  | .ok (.list xs) => pL pLt xs
  | _ => none
theorem pOk_eq {r : Res D} {l : List (List Nat)} (h : pOk r = some l) : r = .ok (.list (l.map eLt)) := by
  unfold pOk at h
  split at h
  · rw [pL_eq (fun _ _ => pLt_eq) h]
  · cases h
theorem lots_k : (List.range 8).all (fun n => decide (pOk (m_all_lots [iD n]) = some (allN n))) = true := by decide +kernel
def lots0 : List D := (allN 0).map eLt
def lots1 : List D := (allN 1).map eLt
def lots2 : List D := (allN 2).map eLt
def lots3 : List D := (allN 3).map eLt
def lots4 : List D := (allN 4).map eLt
def lots5 : List D := (allN 5).map eLt
def lots6 : List D := (allN 6).map eLt
def lots7 : List D := (allN 7).map eLt
def lotsT : Nat → Option (List D)
  | 0 => some lots0
  | 1 => some lots1
  | 2 => some lots2
  | 3 => some lots3
  | 4 => some lots4
  | 5 => some lots5
  | 6 => some lots6
  | 7 => some lots7
  | _ => none
def v_all_lots (ds : List D) : Res D := match ds with
  | [.int (.ofNat n)] => match lotsT n with
    | some l => .ok (.list l)
    | none => m_all_lots ds
  | _ => m_all_lots ds
theorem lotsT_eq {n : Nat} {l : List D} (h : lotsT n = some l) : n < 8 ∧ l = (allN n).map eLt := by
  unfold lotsT at h
  split at h <;> first | (cases h; exact ⟨by omega, rfl⟩) | cases h
theorem ve_all_lots : m_all_lots = v_all_lots := by
  funext ds
  unfold v_all_lots
  split
  · rename_i n
    split
    · rename_i l h
      obtain ⟨h1, rfl⟩ := lotsT_eq h
      have k := List.all_eq_true.mp lots_k n (List.mem_range.mpr h1)
      exact pOk_eq (of_decide_eq_true k)
    · rfl
  · rfl
end Lw

namespace Lw
open PySem PySem.Spec PyProof.Rows L2 Cw
/-! ### the dark places -/
def zG (d : D) : Option D := match d with
  | .tuple [i, .int (.ofNat 0)] => some i
  | _ => none
theorem enumN_mem (c : List Nat) : ∀ (i : Int) (d : D), d ∈ enumL i (c.map iD) → ∃ j n, d = .tuple [.int j, iD n] := by
  induction c with
  | nil => intro i d h; cases h
  | cons a r ih =>
    intro i d h
    rcases List.mem_cons.mp h with h | h
    · exact ⟨i, a, h⟩
    · exact ih (i + 1) d h
def drk (s : Nat) (ls : List (Nat × Nat)) : List D := (enumL 0 ((cnt s ls).map iD)).filterMap zG
theorem cnt1_len (s : Nat) (l : Nat × Nat) (c : List Nat) : (cnt1 s c l).length = c.length := by
  unfold cnt1
  generalize List.range l.2 = r
  induction r generalizing c with
  | nil => rfl
  | cons a r ih => exact (ih _).trans (bump_len _ _)
theorem cnt_len (s : Nat) (ls : List (Nat × Nat)) : (cnt s ls).length = s := by
  unfold cnt
  have : ∀ (ls : List (Nat × Nat)) (c : List Nat), (ls.foldl (cnt1 s) c).length = c.length := fun ls => by
    induction ls with
    | nil => intro c; rfl
    | cons a r ih => intro c; exact (ih _).trans (cnt1_len ..)
  rw [this]; simp
theorem eqD_zero (n : Nat) : eqD (iD n) (.int 0) = .ok (.bool (zG (.tuple [iD 0, iD n])).isSome) := by
  cases n with
  | zero => rfl
  | succ n =>
    show Res.ok (PyData.bool (decide (((n + 1 : Nat) : Int) = 0))) = _
    rw [decide_eq_false (by omega)]
    rfl
theorem raw_dark_ok {s : Nat} {ls : List (Nat × Nat)} {LD : D} (hs : 0 < s) (hs2 : s ≤ 1000) (hl : ls.length ≤ 1000000) (hk : ∀ l ∈ ls, l.2 ≤ 1000000) (hLD : LD = .tuple (ls.map eP) ∨ LD = .list (ls.map eP)) : m_raw_dark [iD s, LD] = .ok (.list (drk s ls)) := by
  have hc := counts_ok hs hs2 hl hk hLD
  refine runF_rt rfl (sRet_ok (eLc_ok (ds := enumL 0 ((cnt s ls).map iD)) ?_ (lcL_mapG zG _ fun d hd => ?_)))
  · unfold iEnumA
    rw [eFn_ok (aCons_ok rfl (aCons_ok rfl rfl)) (d := .list ((cnt s ls).map iD)) (by
      show noX (m_counts_of [iD s, LD]) = _
      rw [hc]; rfl)]
    show (match okLen ((cnt s ls).map iD).length with | true => _ | false => _) = _
    rw [okLen_of (by simp [cnt_len]; omega)]
  · obtain ⟨j, n, rfl⟩ := enumN_mem _ _ _ hd
    refine ⟨_, rfl, ?_, fun y hy => ?_⟩
    · unfold tst
      rw [e2_ok rfl rfl (eqD_zero n)]
      cases n <;> rfl
    · cases n
      · cases hy; rfl
      · cases hy
def fdrk (s : Nat) (xs : List D) (alt : Res D) : Res D := match pL pP xs with
  | some ls => match Nat.blt 0 s && (Nat.ble s 1000 && (Nat.ble ls.length 1000000 && ls.all fun l => Nat.ble l.2 1000000)) with
    | true => .ok (.list (drk s ls))
    | false => alt
  | none => alt
def v_raw_dark (ds : List D) : Res D := match ds with
  | [.int (.ofNat s), .tuple xs] => fdrk s xs (m_raw_dark ds)
  | [.int (.ofNat s), .list xs] => fdrk s xs (m_raw_dark ds)
  | _ => m_raw_dark ds
theorem fdrk_eq {s : Nat} {xs : List D} {LD : D} {alt : Res D} (hLD : LD = .tuple xs ∨ LD = .list xs) (h : m_raw_dark [iD s, LD] = alt) : alt = fdrk s xs alt := by
  unfold fdrk
  split
  · rename_i ls hls
    have e := pL_eq (fun _ _ => pP_eq) hls
    split
    · rename_i hc
      simp only [Bool.and_eq_true, List.all_eq_true, Nat.ble_eq, Nat.blt_eq] at hc
      rw [← h]
      exact raw_dark_ok hc.1 hc.2.1 hc.2.2.1 hc.2.2.2 (by rw [← e]; exact hLD)
    · rfl
  · rfl
theorem ve_raw_dark : m_raw_dark = v_raw_dark := by
  funext ds
  unfold v_raw_dark
  split
  · exact fdrk_eq (.inl rfl) rfl
  · exact fdrk_eq (.inr rfl) rfl
  · rfl
/-! ### do they light -/
def subL {α : Type} (ls : List α) (d : α) (lot : List Nat) : List α := lot.map fun p => ls.getD p d
theorem do_light_ok {s : Nat} {ls : List (Nat × Nat)} {lot : List Nat} (hs : 0 < s) (hs2 : s ≤ 1000) (hk : ∀ l ∈ ls, l.2 ≤ 1000000) (hp : ∀ p ∈ lot, p < ls.length) (hl : lot.length ≤ 1000000) : m_do_light [iD s, .tuple (ls.map eP), .tuple (lot.map iD)] = .ok (.bool (drk s (subL ls (0, 0) lot)).isEmpty) := by
  have h1 := raw_dark_ok (LD := .list ((subL ls (0, 0) lot).map eP)) (ls := subL ls (0, 0) lot) hs hs2 (by unfold subL; simpa using hl) (fun l h => by
    obtain ⟨p, hm, rfl⟩ := List.mem_map.mp h
    have := hp p hm
    rw [show ls.getD p (0, 0) = ls[p] by simp [this]]
    exact hk _ (List.getElem_mem _)) (.inr rfl)
  refine runF_rt rfl (sRet_ok (e2_ok (b := .int 0) (a := .int (drk s (subL ls (0, 0) lot)).length) (eCall_ok (aCons_ok (eFn_ok (aCons_ok rfl (aCons_ok (eLc_ok (iSeq_tup (ds := lot.map iD) rfl (okLen_of (by simpa using hl))) (lcL_map (fun d => match pN d with | some p => some (eP (ls.getD p (0, 0))) | none => none) _ fun d hd => ?_)) rfl)) (d := .list (drk s (subL ls (0, 0) lot))) ?_) rfl) rfl) rfl ?_))
  · obtain ⟨p, hm, rfl⟩ := List.mem_map.mp hd
    refine ⟨rfl, fun y hy => ?_⟩
    cases hy
    refine e2_ok rfl rfl ?_
    have h := hp p hm
    rw [ixD_tup (xs := ls.map eP) (by simpa using h)]
    simp [h]
  · have e : (lot.map iD).filterMap (fun d => match pN d with | some p => some (eP (ls.getD p (0, 0))) | none => none) = (subL ls (0, 0) lot).map eP := by
      rw [List.filterMap_map]
      unfold subL
      rw [List.map_map]
      exact filterMap_all _ _
    rw [e]
    show noX (m_raw_dark [iD s, _]) = _
    rw [h1]; rfl
  · generalize drk s (subL ls (0, 0) lot) = l
    show Res.ok (PyData.bool (decide ((l.length : Int) = 0))) = _
    cases l with
    | nil => rfl
    | cons a r => rw [decide_eq_false (by simp; omega)]; rfl
def v_do_light (ds : List D) : Res D := match ds with
  | [.int (.ofNat s), .tuple xs, .tuple ys] => match pL pP xs, pL pN ys with
    | some ls, some lot => match Nat.blt 0 s && (Nat.ble s 1000 && (Nat.ble lot.length 1000000 && ((ls.all fun l => Nat.ble l.2 1000000) && lot.all fun p => Nat.blt p ls.length))) with
      | true => .ok (.bool (drk s (subL ls (0, 0) lot)).isEmpty)
      | false => m_do_light ds
    | _, _ => m_do_light ds
  | _ => m_do_light ds
theorem ve_do_light : m_do_light = v_do_light := by
  funext ds
  unfold v_do_light
  split
  · split
    · rename_i ls lot h1 h2
      have e1 := pL_eq (fun _ _ => pP_eq) h1
      have e2 := pL_eq (fun _ _ => pN_eq) h2
      split
      · rename_i hc
        simp only [Bool.and_eq_true, List.all_eq_true, Nat.ble_eq, Nat.blt_eq] at hc
        rw [e1, e2]
        exact do_light_ok hc.1 hc.2.1 hc.2.2.2.1 hc.2.2.2.2 hc.2.2.1
      · rfl
    · rfl
  · rfl
end Lw

namespace Lw
open PySem PySem.Spec PyProof.Rows L2 Cw
theorem forL_invI {W σ : Type} {tg : TgF W} {g : FS W} {w : W} (P : Nat → σ → EnvD → Prop) (step : σ → D → σ) : ∀ (ds : List D) (k : Nat) (s : σ) (η : EnvD),
    (∀ j d, ds[j]? = some d → ∀ s η, P (k + j) s η → ∃ η', bindM (tg d η w) (fun η1 w1 => g η1 w1) = .ok (.nx η', w) ∧ P (k + j + 1) (step s d) η') → P k s η → ∃ η', forL tg g ds η w = .ok (.nx η', w) ∧ P (k + ds.length) (ds.foldl step s) η'
  | [], k, s, η, h, p => ⟨η, rfl, p⟩
  | d :: r, k, s, η, h, p => by
    obtain ⟨η1, e, p1⟩ := h 0 d rfl s η p
    obtain ⟨η2, e2, p2⟩ := forL_invI P step r (k + 1) (step s d) η1 (fun j d hd s η p => by
      have := h (j + 1) d (by simpa using hd) s η (by rw [show k + (j + 1) = k + 1 + j by omega]; exact p)
      rwa [show k + (j + 1) = k + 1 + j by omega] at this) p1
    refine ⟨η2, ?_, by rw [show k + (d :: r).length = k + 1 + r.length by simp; omega]; exact p2⟩
    rw [← e2]
    show Cw.bindM (tg d η w) (fun η1 w1 => Cw.bindM (g η1 w1) _) = _
    revert e
    generalize tg d η w = r0
    intro e
    match r0, e with
    | .ok (a, w1), e =>
      show Cw.bindM (g a w1) _ = _
      rw [show g a w1 = .ok (.nx η1, w) from e]; rfl
    | .exc c, e => cases e
    | .stk, e => cases e
/-! ### the lights that shine -/
def idxs : Nat → List Bool → List Nat
  | _, [] => []
  | i, true :: r => i :: idxs (i + 1) r
  | i, false :: r => idxs (i + 1) r
theorem idxs_eq : ∀ (c : List Bool) (i : Nat), (enumL (i : Int) (c.map bD)).filterMap onG = (idxs i c).map iD
  | [], i => rfl
  | true :: r, i => by
    have h := idxs_eq r (i + 1)
    show _ :: (enumL ((i : Int) + 1) (r.map bD)).filterMap onG = _
    rw [show ((i : Int) + 1) = ((i + 1 : Nat) : Int) by omega, h]; rfl
  | false :: r, i => by
    have h := idxs_eq r (i + 1)
    show (enumL ((i : Int) + 1) (r.map bD)).filterMap onG = _
    rw [show ((i : Int) + 1) = ((i + 1 : Nat) : Int) by omega, h]; rfl
def shL (sw : List (List Nat)) (pr : List Nat) : List Nat := idxs 0 (shn sw pr)
def beqL : List Nat → List Nat → Bool
  | [], [] => true
  | a :: r, b :: s => match Nat.beq a b with
    | true => beqL r s
    | false => false
  | _, _ => false
theorem beqL_eq : ∀ a b : List Nat, beqL a b = decide (a = b)
  | [], [] => rfl
  | [], _ :: _ => by simp [beqL]
  | _ :: _, [] => by simp [beqL]
  | a :: r, b :: s => by
    unfold beqL
    split
    · rename_i h
      rw [beqL_eq r s, Nat.eq_of_beq_eq_true h]
      simp
    · rename_i h
      have : a ≠ b := fun e => by subst e; simp at h
      simp [this]
theorem keq_L (a b : List Nat) : keq (eLt a) (eLt b) = beqL a b := by
  have e : ∀ a : List Nat, eLt a = .tuple ((a.map fun (n : Nat) => (.inl (n : Int) : Key)).map keyD) := fun a => by
    unfold eLt; rw [List.map_map]; rfl
  rw [e, e, keq_tup, beqL_eq]
  congr 1
  apply propext
  constructor
  · intro h
    exact (List.map_inj_right (fun x y h => by have h := Sum.inl.inj h; omega)).mp h
  · intro h; rw [h]
theorem tkey_L (a : List Nat) : ∃ k, tkey (eLt a) = some k := by
  refine ⟨a.map fun (n : Nat) => (.inl (n : Int) : Key), ?_⟩
  show skeys (a.map iD) = _
  induction a with
  | nil => rfl
  | cons x r ih => show (match skey (iD x), skeys (r.map iD) with | some k, some ks => some (k :: ks) | _, _ => none) = _; rw [ih]; rfl
abbrev Kv := List (List Nat × List Nat)
def eKv (x : List Nat × List Nat) : D × D := (eLt x.1, eLt x.2)
def hasK : Kv → List Nat → Bool
  | [], _ => false
  | x :: r, k => match beqL x.1 k with
    | true => true
    | false => hasK r k
def lookK : Kv → List Nat → Option (List Nat)
  | [], _ => none
  | x :: r, k => match beqL x.1 k with
    | true => some x.2
    | false => lookK r k
theorem hasK_cons (x : List Nat × List Nat) (r : Kv) (k : List Nat) : hasK (x :: r) k = match beqL x.1 k with
    | true => true
    | false => hasK r k := rfl
theorem lookK_cons (x : List Nat × List Nat) (r : Kv) (k : List Nat) : lookK (x :: r) k = match beqL x.1 k with
    | true => some x.2
    | false => lookK r k := rfl
theorem hasD_L (k : List Nat) : ∀ kv : Kv, hasD (kv.map eKv) (eLt k) = hasK kv k
  | [] => rfl
  | x :: r => by
    show (keq (eLt x.1) (eLt k) || hasD (r.map eKv) (eLt k)) = _
    rw [keq_L, hasD_L k r, hasK_cons]
    cases beqL x.1 k <;> rfl
theorem lookD_L (k : List Nat) : ∀ kv : Kv, lookD (kv.map eKv) (eLt k) = (lookK kv k).map eLt
  | [] => rfl
  | x :: r => by
    show (match keq (eLt x.1) (eLt k) with | true => some (eLt x.2) | false => lookD (r.map eKv) (eLt k)) = _
    rw [keq_L, lookD_L k r, lookK_cons]
    cases beqL x.1 k <;> rfl
theorem look_has (k : List Nat) : ∀ kv : Kv, (lookK kv k).isSome = hasK kv k
  | [] => rfl
  | x :: r => by
    rw [lookK_cons, hasK_cons]
    cases beqL x.1 k
    · exact look_has k r
    · rfl
def addK (sw : List (List Nat)) (kv : Kv) (lot : List Nat) : Kv := match hasK kv (shL sw lot) with
  | true => kv
  | false => kv ++ [(shL sw lot, lot)]
def dshK (sw : List (List Nat)) (lots : List (List Nat)) : Kv := lots.foldl (addK sw) []
def suA (sw : List (List Nat)) (kv : Kv) (d : D) : Kv := match pLt d with
  | some l => addK sw kv l
  | none => kv
theorem pLt_L (l : List Nat) : pLt (eLt l) = some l := by
  show pL pN (l.map iD) = some l
  induction l with
  | nil => rfl
  | cons a r ih =>
    rw [List.map_cons]
    unfold pL
    rw [ih]
    rfl
theorem sDput_ok {W : Type} {i : Nat} {fk fv : FE W} {η : EnvD} {w w1 w2 : W} {v k : D} {kvs kvs' : List (D × D)} (h1 : fv η w = .ok (v, w1)) (h2 : η[i]? = some (.ow (.dict kvs))) (h3 : fk η w1 = .ok (k, w2)) (h4 : dputD kvs k v = some kvs') (h5 : okLen kvs.length = true) : sDput i fk fv η w = .ok (.nx (η.set i (.ow (.dict kvs'))), w2) := by
  have e : ownD η i = some kvs := by unfold ownD; rw [h2]
  unfold sDput
  rw [h1]
  dsimp only [Cw.bindM]
  rw [e]
  dsimp only
  rw [h3]
  dsimp only
  rw [h4]
  dsimp only
  rw [h5]
def AP (SW : D) (n : Nat) (kv : Kv) (η : EnvD) : Prop := kv.length ≤ n ∧ ∃ a2 a3, η = [.fr SW, .ow (.dict ((.none, .none) :: kv.map eKv)), a2, a3]
theorem lots_in {n : Nat} {l : List Nat} (h : l ∈ allN n) : l.length ≤ n ∧ ∀ p ∈ l, p < n := by
  unfold allN at h
  obtain ⟨k, hk, h⟩ := List.mem_flatMap.mp h
  have hk := List.mem_range.mp hk
  have : ∀ k l, l ∈ lotsN n k → l.length = k ∧ ∀ p ∈ l, p < n := fun k => by
    induction k with
    | zero => intro l h; simp [lotsN] at h; subst h; simp
    | succ k ih =>
      intro l h
      unfold lotsN at h
      obtain ⟨lot, h1, h2⟩ := List.mem_flatMap.mp h
      obtain ⟨x, hx, rfl⟩ := List.mem_map.mp h2
      have hx := List.mem_range.mp (List.mem_filter.mp hx).1
      obtain ⟨i1, i2⟩ := ih lot h1
      refine ⟨by simp [i1], fun p hp => ?_⟩
      rcases List.mem_append.mp hp with hp | hp
      · exact i2 p hp
      · rw [List.mem_singleton.mp hp]; exact hx
  obtain ⟨h1, h2⟩ := this k l h
  exact ⟨by omega, h2⟩
theorem all_shines_ok {sw : List (List Nat)} (hn : sw.length < 8) (hl : ∀ l ∈ sw, l.length ≤ 1000000 ∧ ∀ x ∈ l, x < 10) : m_all_shines [.tuple (sw.map eLt)] = .ok (.dict ((.none, .none) :: (dshK sw (allN sw.length)).map eKv)) := by
  have hL : m_all_lots [iD sw.length] = .ok (.list ((allN sw.length).map eLt)) := pOk_eq (of_decide_eq_true (List.all_eq_true.mp lots_k sw.length (List.mem_range.mpr hn)))
  have hN : (allN sw.length).length ≤ 128 := by
    revert hn
    generalize sw.length = n
    intro hn
    have : (List.range 8).all (fun n => Nat.ble (allN n).length 128) = true := by decide +kernel
    exact Nat.le_of_ble_eq_true (List.all_eq_true.mp this n (List.mem_range.mpr hn))
  generalize hSW : PyData.tuple (sw.map eLt) = SW
  obtain ⟨η', e, hc, a2, a3, rfl⟩ := forL_invI (tg := tgN 2) (g := sSeq (sSet 3 (eFn (fun ds => noX (m_raw_shine ds)) (aCons (eV 0) (aCons (eV 2) aNil)))) (sIf (tst (eDin true (eV 3) (eVq 1))) (sDput 1 (eV 3) (eV 2)) sNil)) (w := ()) (AP SW) (suA sw) ((allN sw.length).map eLt) 0 [] [.fr SW, .ow (.dict [(.none, .none)]), .un, .un] (fun j d hd kv η hP => by
      obtain ⟨l, hm, rfl⟩ := List.mem_map.mp (List.mem_of_getElem? hd)
      have hj : j < ((allN sw.length).map eLt).length := (List.getElem?_eq_some_iff.mp hd).1
      rw [List.length_map] at hj
      obtain ⟨hc, a2, a3, rfl⟩ := hP
      obtain ⟨l1, l2⟩ := lots_in hm
      have hr : m_raw_shine [SW, eLt l] = .ok (eLt (shL sw l)) := by
        rw [← hSW]
        have := raw_shine_ok (sw := sw) (pr := l) (by omega) l2 hl
        rw [show (enumL 0 ((shn sw l).map bD)).filterMap onG = (shL sw l).map iD from idxs_eq _ 0] at this
        exact this
      have h1 : sSet 3 (eFn (fun ds => noX (m_raw_shine ds)) (aCons (eV 0) (aCons (eV 2) aNil))) [.fr SW, .ow (.dict ((.none, .none) :: kv.map eKv)), .fr (eLt l), a3] () = .ok (.nx [.fr SW, .ow (.dict ((.none, .none) :: kv.map eKv)), .fr (eLt l), .fr (eLt (shL sw l))], ()) :=
        sSet_ok (eFn_ok (aCons_ok rfl (aCons_ok rfl rfl)) (by show noX (m_raw_shine [SW, eLt l]) = _; rw [hr]; rfl))
      have hz : suA sw kv (eLt l) = addK sw kv l := by unfold suA; rw [pLt_L]
      rw [hz]
      obtain ⟨tk, htk⟩ := tkey_L (shL sw l)
      have h2 : tst (eDin true (eV 3) (eVq 1)) [.fr SW, .ow (.dict ((.none, .none) :: kv.map eKv)), .fr (eLt l), .fr (eLt (shL sw l))] () = .ok (!hasK kv (shL sw l), ()) := by
        unfold tst eDin
        rw [e2_ok (w := ()) (η := [.fr SW, .ow (.dict ((.none, .none) :: kv.map eKv)), .fr (eLt l), .fr (eLt (shL sw l))]) (fa := eV 3) (fb := eVq 1) (a := eLt (shL sw l)) (b := .dict ((.none, .none) :: kv.map eKv)) (d := .bool (!hasK kv (shL sw l))) rfl rfl (by
          dsimp only [dgetD]
          rw [htk]
          dsimp only
          rw [lookD_L, ← look_has, Option.isSome_map]
          cases (lookK kv (shL sw l)).isSome <;> rfl)]
        rfl
      refine ⟨[.fr SW, .ow (.dict ((.none, .none) :: (addK sw kv l).map eKv)), .fr (eLt l), .fr (eLt (shL sw l))], ?_, ?_, _, _, rfl⟩
      · refine sSeq_ok h1 ?_
        unfold sIf
        rw [h2]
        unfold addK
        cases hh : hasK kv (shL sw l) with
        | true => rfl
        | false =>
          have : dputD ((.none, .none) :: kv.map eKv) (eLt (shL sw l)) (eLt l) = some ((.none, .none) :: (kv ++ [(shL sw l, l)]).map eKv) := by
            dsimp only [dputD]
            rw [htk]
            dsimp only
            unfold putD
            rw [hasD_L, hh]
            simp [eKv]
          exact sDput_ok (i := 1) (η := [.fr SW, .ow (.dict ((.none, .none) :: kv.map eKv)), .fr (eLt l), .fr (eLt (shL sw l))]) (w := ()) (fv := eV 2) (fk := eV 3) rfl rfl rfl this (okLen_of (by simp; omega))
      · unfold addK
        split
        · omega
        · simp; omega) ⟨by simp, _, _, rfl⟩
  have z : List.foldl (suA sw) [] ((allN sw.length).map eLt) = dshK sw (allN sw.length) := by
    have hf : (fun kv l => suA sw kv (eLt l)) = addK sw := by funext kv l; unfold suA; rw [pLt_L]
    rw [List.foldl_map, hf, dshK]
  rw [z] at e
  refine runF_rt rfl (sSeq_ok (sSetN_ok rfl) (sSeq_ok (sFor_ok (iSeq_list (ds := (allN sw.length).map eLt) (eFn_ok (ds := [iD sw.length]) ?_ ?_) (okLen_of (by simp; omega))) e) rfl))
  · have hlen : lenD [SW] = .ok (iD sw.length) := by rw [← hSW]; simp [lenD, iD]
    rw [← hSW] at hlen ⊢
    exact aCons_ok (eCall_ok (aCons_ok rfl rfl) hlen) rfl
  · show noX (m_all_lots _) = _
    rw [hL]; rfl
end Lw

namespace Lw
open PySem PySem.Spec PyProof.Rows L2 Cw
theorem eAnd_tt {W : Type} {η : EnvD} {w w1 w2 : W} {fa fb : FE W} {d : D} (h1 : fa η w = .ok (.bool true, w1)) (h2 : fb η w1 = .ok (d, w2)) : eAnd fa fb η w = .ok (d, w2) := by
  unfold eAnd; rw [h1]; exact h2
theorem eAnd_ff {W : Type} {η : EnvD} {w w1 : W} {fa fb : FE W} (h1 : fa η w = .ok (.bool false, w1)) : eAnd fa fb η w = .ok (.bool false, w1) := by
  unfold eAnd; rw [h1]; rfl
theorem eAnd_b {W : Type} {η : EnvD} {w : W} {fa fb : FE W} {a b : Bool} (h1 : fa η w = .ok (.bool a, w)) (h2 : fb η w = .ok (.bool b, w)) : eAnd fa fb η w = .ok (.bool (a && b), w) := by
  cases a
  · exact eAnd_ff h1
  · exact eAnd_tt h1 h2
theorem noX_ok {d : D} : noX (.ok d) = .ok d := rfl
theorem eChain_ok {W : Type} {η : EnvD} {w : W} {f g : D → D → Res D} {fa fb fc : FE W} {a b c : D} {p q : Bool} (h1 : fa η w = .ok (a, w)) (h2 : fb η w = .ok (b, w)) (h3 : fc η w = .ok (c, w)) (h4 : f a b = .ok (.bool p)) (h5 : g b c = .ok (.bool q)) : eChain f g fa fb fc η w = .ok (.bool (p && q), w) := by
  unfold eChain
  rw [h1]
  dsimp only [Cw.bindM]
  rw [h2]
  dsimp only
  rw [h4]
  dsimp only [Cw.liftM]
  cases p
  · rfl
  · dsimp only
    rw [h3]
    dsimp only
    rw [h5]; rfl
theorem is_within_ok (x a b : Int) : m_is_within [.int x, .int a, .int b] = .ok (.bool (decide (a ≤ x) && decide (x ≤ b))) := by
  have h : m_is_integer [.int x] = .ok (.bool true) := rfl
  refine runF_rt rfl (sRet_ok (eAnd_tt (eFn_ok (aCons_ok rfl rfl) (by show noX (m_is_integer [.int x]) = _; rw [h]; rfl)) ?_))
  exact eChain_ok rfl rfl rfl rfl rfl
def v_is_within (ds : List D) : Res D := match ds with
  | [.int x, .int a, .int b] => .ok (.bool (decide (a ≤ x) && decide (x ≤ b)))
  | _ => m_is_within ds
theorem ve_is_within : m_is_within = v_is_within := by
  funext ds
  unfold v_is_within
  split
  · exact is_within_ok ..
  · rfl
theorem eFnW {f : List D → Res D} {fs : FA Unit} {η : EnvD} {ds : List D} {d : D} (h1 : fs η () = .ok (ds, ())) (h3 : f ds = .ok d) : eFn (fun ds => noX (f ds)) fs η () = .ok (d, ()) :=
  eFn_ok h1 (by show noX (f ds) = _; rw [h3]; rfl)
theorem is_lamp_ok (s b k : Int) : m_is_lamp [.int s, .tuple [.int b, .int k]] = .ok (.bool ((decide (0 ≤ b) && decide (b ≤ s - 1)) && (decide (1 ≤ k) && decide (k ≤ s)))) := by
  have h : m_is_tuple_of [.tuple [.int b, .int k], .int 2] = .ok (.bool true) := rfl
  refine runF_rt rfl (sRet_ok (eAnd_tt (eFnW (aCons_ok rfl (aCons_ok rfl rfl)) h) (eAnd_b (eFnW (aCons_ok (e2_ok rfl rfl rfl) (aCons_ok rfl (aCons_ok (e2_ok rfl rfl rfl) rfl))) (is_within_ok ..)) (eFnW (aCons_ok (e2_ok rfl rfl rfl) (aCons_ok rfl (aCons_ok rfl rfl))) (is_within_ok ..)))))
def v_is_lamp (ds : List D) : Res D := match ds with
  | [.int s, .tuple [.int b, .int k]] => .ok (.bool ((decide (0 ≤ b) && decide (b ≤ s - 1)) && (decide (1 ≤ k) && decide (k ≤ s))))
  | _ => m_is_lamp ds
theorem ve_is_lamp : m_is_lamp = v_is_lamp := by
  funext ds
  unfold v_is_lamp
  split
  · exact is_lamp_ok ..
  · rfl
theorem boolsOf_map : ∀ l : List Bool, boolsOf (l.map bD) = some l
  | [] => rfl
  | a :: r => by
    rw [List.map_cons]
    unfold boolsOf
    simp [bD, boolsOf_map r]
theorem allD_map (l : List Bool) : allD [.list (l.map bD)] = .ok (.bool (l.all fun b => b)) := by
  unfold allD
  dsimp only
  rw [boolsOf_map]
theorem are_within_ok {xs : List Nat} {n : Nat} (hl : xs.length ≤ 1000000) : m_are_within [.tuple (xs.map iD), .int 0, .int ((n : Int) - 1)] = .ok (.bool (xs.all fun x => Nat.blt x n)) := by
  refine runF_rt rfl (sRet_ok (eAnd_tt rfl ?_))
  refine eCall_ok (ds := [.list ((xs.map fun x => Nat.blt x n).map bD)]) (aCons_ok (eLc_ok (iSeq_tup (ds := xs.map iD) rfl (okLen_of (by simpa using hl))) (w2 := ()) ?_) rfl) (by rw [allD_map, List.all_map]; rfl)
  rw [lcL_map (fun d => match pN d with | some x => some (bD (Nat.blt x n)) | none => none) _ fun d hd => by
    obtain ⟨x, _, rfl⟩ := List.mem_map.mp hd
    refine ⟨rfl, fun y hy => ?_⟩
    cases hy
    refine eFnW (aCons_ok rfl (aCons_ok rfl (aCons_ok rfl rfl))) ?_
    rw [show iD x = .int (x : Int) from rfl, is_within_ok, decide_eq_true (show (0 : Int) ≤ x by omega), Bool.true_and]
    congr 2
    by_cases h : x < n
    · rw [decide_eq_true (by omega), (Nat.blt_eq).mpr h]
    · rw [decide_eq_false (by omega), Bool.eq_false_iff.mpr (fun e => h (Nat.blt_eq.mp e))]]
  rw [List.filterMap_map, List.map_map]
  exact congrArg (fun l => Res.ok (l, ())) (filterMap_all _ _)
theorem zipL_map : ∀ xs ys : List Nat, zipL (xs.map iD) (ys.map iD) = (xs.zip ys).map eP
  | [], ys => by cases ys <;> rfl
  | _ :: _, [] => rfl
  | x :: r, y :: s => by show _ :: zipL (r.map iD) (s.map iD) = _; rw [zipL_map r s]; rfl
theorem cut_one {α : Type} (l : List α) : cutL l (some 1) none = l.drop 1 := by
  unfold cutL
  cases l with
  | nil => rfl
  | cons a r =>
    have h1 : HT.sIx (a :: r).length 0 (some 1) = 1 := by
      unfold HT.sIx
      simp
    have h2 : HT.sIx (a :: r).length (a :: r).length none = (a :: r).length := rfl
    rw [h1, h2]
    simp
def lotB (xs : List Nat) (n : Nat) : Bool := (xs.all fun x => Nat.blt x n) && (xs.zip (xs.drop 1)).all fun p => Nat.blt p.1 p.2
theorem is_lot_ok {xs : List Nat} {n : Nat} (hl : xs.length ≤ 1000000) : m_is_lot [.tuple (xs.map iD), .int (n : Int)] = .ok (.bool (lotB xs n)) := by
  have hw : tNotF (tst (eFn (fun ds => noX (m_are_within ds)) (aCons (eV 0) (aCons (eC (.int 0)) (aCons (e2 subD (eV 1) (eC (.int 1))) aNil))))) [.fr (.tuple (xs.map iD)), .fr (.int (n : Int)), .un, .un] () = .ok (!(xs.all fun x => Nat.blt x n), ()) := by
    unfold tNotF tst
    rw [eFnW (f := m_are_within) (η := [.fr (.tuple (xs.map iD)), .fr (.int (n : Int)), .un, .un]) (ds := [.tuple (xs.map iD), .int 0, .int ((n : Int) - 1)]) (aCons_ok rfl (aCons_ok rfl (aCons_ok (e2_ok rfl rfl rfl) rfl))) (are_within_ok hl)]
    rfl
  have hr : ∀ r, sRet (eCall allD (aCons (eLc (iZipF (aCons (eV 0) (aCons (eSlice (eV 0) (oSome (eC (.int 1))) oNone) aNil))) [2, 3] (tgT (tgCons (tgN 2) (tgCons (tgN 3) tgNil))) tYesF (e2 ltD (eV 2) (eV 3))) aNil)) [.fr (.tuple (xs.map iD)), .fr (.int (n : Int)), .un, .un] () = r → r = .ok (.rt (.bool ((xs.zip (xs.drop 1)).all fun p => Nat.blt p.1 p.2)), ()) := fun r hr => by
    rw [← hr]
    refine sRet_ok (eCall_ok (ds := [.list (((xs.zip (xs.drop 1)).map fun p => Nat.blt p.1 p.2).map bD)]) (aCons_ok (eLc_ok (ds := (xs.zip (xs.drop 1)).map eP) (w1 := ()) ?_ (w2 := ()) ?_) rfl) (by rw [allD_map, List.all_map]; rfl))
    · have hs : eSlice (eV 0) (oSome (eC (.int 1))) oNone [.fr (.tuple (xs.map iD)), .fr (.int (n : Int)), .un, .un] () = .ok (.tuple ((xs.drop 1).map iD), ()) := by
        show Res.ok (PyData.tuple (cutL (xs.map iD) (some 1) none), ()) = _
        rw [cut_one, List.map_drop]
      unfold iZipF
      rw [aCons_ok (fa := eV 0) (a := .tuple (xs.map iD)) rfl (aCons_ok hs rfl)]
      show (match okLen (xs.map iD).length with | true => _ | false => _) = _
      rw [okLen_of (by simpa using hl), ← zipL_map]
    · rw [lcL_mapG (fun d => match pP d with | some p => some (bD (Nat.blt p.1 p.2)) | none => none) _ fun d hd => by
        obtain ⟨⟨a, b⟩, _, rfl⟩ := List.mem_map.mp hd
        refine ⟨_, rfl, rfl, fun y hy => ?_⟩
        cases hy
        refine e2_ok rfl rfl ?_
        show Res.ok (PyData.bool (decide ((a : Int) < b))) = _
        by_cases h : a < b
        · rw [decide_eq_true (by omega), show Nat.blt (a, b).1 (a, b).2 = true from Nat.blt_eq.mpr h]; rfl
        · rw [decide_eq_false (by omega), show Nat.blt (a, b).1 (a, b).2 = false from Bool.eq_false_iff.mpr (fun e => h (Nat.blt_eq.mp e))]; rfl]
      rw [List.filterMap_map, List.map_map]
      exact congrArg (fun l => Res.ok (l, ())) (filterMap_all _ _)
  unfold lotB
  cases hx : (xs.all fun x => Nat.blt x n) with
  | false =>
    rw [hx] at hw
    refine runF_rt rfl ?_
    show sSeq _ _ _ () = _
    unfold sSeq sIf
    show Cw.bindM (Cw.bindM (tNotF _ [.fr (.tuple (xs.map iD)), .fr (.int (n : Int)), .un, .un] ()) _) _ = _
    rw [hw]; rfl
  | true =>
    rw [hx] at hw
    refine runF_rt rfl (sSeq_ok (η1 := [.fr (.tuple (xs.map iD)), .fr (.int (n : Int)), .un, .un]) (w1 := ()) ?_ (hr _ rfl))
    unfold sIf
    show Cw.bindM (tNotF _ [.fr (.tuple (xs.map iD)), .fr (.int (n : Int)), .un, .un] ()) _ = _
    rw [hw]; rfl
def v_is_lot (ds : List D) : Res D := match ds with
  | [.tuple ys, .int (.ofNat n)] => match pL pN ys with
    | some xs => match Nat.ble xs.length 1000000 with
      | true => .ok (.bool (lotB xs n))
      | false => m_is_lot ds
    | none => m_is_lot ds
  | _ => m_is_lot ds
theorem ve_is_lot : m_is_lot = v_is_lot := by
  funext ds
  unfold v_is_lot
  split
  · split
    · rename_i xs h
      have e := pL_eq (fun _ _ => pN_eq) h
      split
      · rename_i hc
        rw [e]
        exact is_lot_ok (Nat.le_of_ble_eq_true hc)
      · rfl
    · rfl
  · rfl
end Lw

namespace Lw
open PySem PySem.Spec PyProof.Rows L2 Cw
theorem runF_nx {n N : Nat} {g : FS Unit} {ds : List D} {η : EnvD} (hn : Nat.beq ds.length n = true) (h : g (ds.map Slot.fr ++ List.replicate (N - n) Slot.un) () = .ok (.nx η, ())) : runF n N g ds = .ok .none := by
  unfold runF; rw [hn]; dsimp only; rw [h]
theorem sIf_false {W : Type} {η : EnvD} {w w1 : W} {ft : FT W} {ga gb : FS W} {r : Res (Out × W)} (h1 : ft η w = .ok (false, w1)) (h2 : gb η w1 = r) : sIf ft ga gb η w = r := by
  unfold sIf; rw [h1]; exact h2
theorem sDrop_ok {W : Type} {η : EnvD} {w w1 : W} {fa : FE W} {a : D} (h1 : fa η w = .ok (a, w1)) : sDrop fa η w = .ok (.nx η, w1) := by
  unfold sDrop; rw [h1]; rfl
theorem tst_b {W : Type} {η : EnvD} {w w1 : W} {fa : FE W} {b : Bool} (h1 : fa η w = .ok (.bool b, w1)) : tst fa η w = .ok (b, w1) := by
  unfold tst; rw [h1]; rfl
theorem tNot_b {W : Type} {η : EnvD} {w w1 : W} {ft : FT W} {b : Bool} (h1 : ft η w = .ok (b, w1)) : tNotF ft η w = .ok (!b, w1) := by
  unfold tNotF; rw [h1]; rfl
theorem tOr_f {W : Type} {η : EnvD} {w w1 : W} {ft fu : FT W} {r : Res (Bool × W)} (h1 : ft η w = .ok (false, w1)) (h2 : fu η w1 = r) : tOrF ft fu η w = r := by
  unfold tOrF; rw [h1]; exact h2
theorem check_size_ok {s : Nat} (h1 : 1 ≤ s) (h2 : s ≤ 60) : m_check_size [iD s] = .ok .none := by
  refine runF_nx rfl (sIf_false (w1 := ()) (tNot_b (b := true) (tst_b (eFnW (aCons_ok rfl (aCons_ok rfl (aCons_ok rfl rfl))) ?_))) rfl)
  rw [show iD s = .int (s : Int) from rfl, is_within_ok, decide_eq_true (by omega), decide_eq_true (by omega)]
  rfl
def lampB (s : Nat) (l : Nat × Nat) : Bool := Nat.blt l.1 s && (Nat.ble 1 l.2 && Nat.ble l.2 s)
theorem check_lamps_ok {s : Nat} {ls : List (Nat × Nat)} (h1 : 1 ≤ s) (h2 : s ≤ 60) (hl : ls.length ≤ 12) (hb : (ls.all (lampB s)) = true) : m_check_lamps [iD s, .tuple (ls.map eP)] = .ok .none := by
  have e := List.all_eq_true.mp hb
  have hlen : lenD [.tuple (ls.map eP)] = .ok (.int ls.length) := by simp [lenD]
  have hgt : gtD (.int ls.length) (.int 12) = .ok (.bool false) := by
    show Res.ok (PyData.bool (decide ((ls.length : Int) > 12))) = _
    rw [decide_eq_false (by omega)]
  have hall : allD [.list ((ls.map fun _ => true).map bD)] = .ok (.bool true) := by
    rw [allD_map]; congr 2; simp
  refine runF_nx rfl (sSeq_ok (sDrop_ok (eFnW (aCons_ok rfl rfl) (check_size_ok h1 h2))) (sIf_false (w1 := ()) ?_ rfl))
  refine tOr_f (w1 := ()) (tNot_b (b := true) rfl) (tOr_f (w1 := ()) (tst_b (b := false) (e2_ok (eCall_ok (aCons_ok rfl rfl) hlen) rfl hgt)) (tNot_b (b := true) (tst_b (eCall_ok (aCons_ok (eLc_ok (iSeq_tup (ds := ls.map eP) rfl (okLen_of (by simp; omega))) (w2 := ()) ?_) rfl) hall))))
  · rw [lcL_map (fun d => some (bD true)) _ fun d hd => by
      obtain ⟨⟨b, k⟩, hm, rfl⟩ := List.mem_map.mp hd
      refine ⟨rfl, fun y hy => ?_⟩
      cases hy
      refine eFnW (aCons_ok rfl (aCons_ok rfl rfl)) ?_
      have := e _ hm
      unfold lampB at this
      simp only [Bool.and_eq_true, Nat.ble_eq, Nat.blt_eq] at this
      rw [show iD s = .int (s : Int) from rfl, show eP (b, k) = .tuple [.int (b : Int), .int (k : Int)] from rfl, is_lamp_ok, decide_eq_true (by omega), decide_eq_true (by omega), decide_eq_true (by omega), decide_eq_true (by omega)]
      rfl]
    rw [filterMap_all, List.map_map, List.map_map]
    rfl
def v_check_lamps (ds : List D) : Res D := match ds with
  | [.int (.ofNat s), .tuple xs] => match pL pP xs with
    | some ls => match Nat.ble 1 s && (Nat.ble s 60 && (Nat.ble ls.length 12 && ls.all (lampB s))) with
      | true => .ok .none
      | false => m_check_lamps ds
    | none => m_check_lamps ds
  | _ => m_check_lamps ds
theorem ve_check_lamps : m_check_lamps = v_check_lamps := by
  funext ds
  unfold v_check_lamps
  split
  · split
    · rename_i ls h
      have e := pL_eq (fun _ _ => pP_eq) h
      split
      · rename_i hc
        simp only [Bool.and_eq_true, Nat.ble_eq] at hc
        subst e
        exact check_lamps_ok hc.1 hc.2.1 hc.2.2.1 hc.2.2.2
      · rfl
    · rfl
  · rfl
def litG (d : D) : Option D := match d with
  | .tuple [i, .int (.ofNat (_ + 1))] => some i
  | _ => none
def litL (s : Nat) (ls : List (Nat × Nat)) : List D := (enumL 0 ((cnt s ls).map iD)).filterMap litG
theorem gtD_zero (n : Nat) (j : Int) : gtD (iD n) (.int 0) = .ok (.bool (litG (.tuple [.int j, iD n])).isSome) := by
  cases n with
  | zero => rfl
  | succ n =>
    show Res.ok (PyData.bool (decide (((n + 1 : Nat) : Int) > 0))) = _
    rw [decide_eq_true (by omega)]
    rfl
theorem lit_ok {s : Nat} {ls : List (Nat × Nat)} (h1 : 1 ≤ s) (h2 : s ≤ 60) (hl : ls.length ≤ 12) (hb : (ls.all (lampB s)) = true) : m_lit [iD s, .tuple (ls.map eP)] = .ok (.tuple (litL s ls)) := by
  have e := List.all_eq_true.mp hb
  have hc := counts_ok (s := s) (ls := ls) (LD := .tuple (ls.map eP)) (by omega) (by omega) (by omega) (fun l hm => by
    have := e _ hm
    unfold lampB at this
    simp only [Bool.and_eq_true, Nat.ble_eq, Nat.blt_eq] at this
    omega) (.inl rfl)
  refine runF_rt rfl (sSeq_ok (sDrop_ok (eFnW (aCons_ok rfl (aCons_ok rfl rfl)) (check_lamps_ok h1 h2 hl hb))) (sRet_ok (eCall_ok (aCons_ok (eLc_ok (ds := enumL 0 ((cnt s ls).map iD)) (w1 := ()) ?_ (lcL_mapG litG _ fun d hd => ?_)) rfl) rfl)))
  · unfold iEnumA
    rw [eFnW (f := m_counts_of) (aCons_ok rfl (aCons_ok rfl rfl)) hc]
    show (match okLen ((cnt s ls).map iD).length with | true => _ | false => _) = _
    rw [okLen_of (by simp [cnt_len]; omega)]
  · obtain ⟨j, n, rfl⟩ := enumN_mem _ _ _ hd
    refine ⟨_, rfl, tst_b (e2_ok rfl rfl (gtD_zero n j)), fun y hy => ?_⟩
    cases n
    · cases hy
    · cases hy; rfl
def v_lit (ds : List D) : Res D := match ds with
  | [.int (.ofNat s), .tuple xs] => match pL pP xs with
    | some ls => match Nat.ble 1 s && (Nat.ble s 60 && (Nat.ble ls.length 12 && ls.all (lampB s))) with
      | true => .ok (.tuple (litL s ls))
      | false => m_lit ds
    | none => m_lit ds
  | _ => m_lit ds
theorem ve_lit : m_lit = v_lit := by
  funext ds
  unfold v_lit
  split
  · split
    · rename_i ls h
      have e := pL_eq (fun _ _ => pP_eq) h
      split
      · rename_i hc
        simp only [Bool.and_eq_true, Nat.ble_eq] at hc
        subst e
        exact lit_ok hc.1 hc.2.1 hc.2.2.1 hc.2.2.2
      · rfl
    · rfl
  · rfl
end Lw

namespace Lw
open PySem PySem.Spec PyProof.Rows L2 Cw
def v_are_within : List D → Res D := runF 3 4 (sRet (eAnd (e1 (isiD' "tuple") (eV 0)) (eCall allD (aCons (eLc (iSeq (eV 0)) [3] (tgN 3) tYesF (eFn (fun ds => noX (v_is_within ds)) (aCons (eV 3) (aCons (eV 1) (aCons (eV 2) aNil))))) aNil))))
theorem ve_are_within : m_are_within = v_are_within := by unfold m_are_within v_are_within; rw [ve_is_within]
def v_check_size : List D → Res D := runF 1 1 (sIf (tNotF (tst (eFn (fun ds => noX (v_is_within ds)) (aCons (eV 0) (aCons (eC (.int 1)) (aCons (eC (.int 60)) aNil)))))) sStk sNil)
theorem ve_check_size : m_check_size = v_check_size := by unfold m_check_size v_check_size; rw [ve_is_within]
def v_dark : List D → Res D := runF 2 3 (sSeq (sDrop (eFn (fun ds => noX (v_check_lamps ds)) (aCons (eV 0) (aCons (eV 1) aNil)))) (sSeq (sSet 2 (eFn (fun ds => noX (v_raw_dark ds)) (aCons (eV 0) (aCons (eV 1) aNil)))) (sRet (eIf (tst (e2 gtD (eCall lenD (aCons (eV 2) aNil)) (eC (.int 0)))) (e2 ixD (eV 2) (eC (.int 0))) (eC .none)))))
theorem ve_dark : m_dark = v_dark := by unfold m_dark v_dark; rw [ve_check_lamps, ve_raw_dark]
def v_fewest_lamps : List D → Res D := runF 2 3 (sSeq (sDrop (eFn (fun ds => noX (v_check_lamps ds)) (aCons (eV 0) (aCons (eV 1) aNil)))) (sSeq (sIf (tst (e2 gtD (eCall lenD (aCons (eFn (fun ds => noX (v_raw_dark ds)) (aCons (eV 0) (aCons (eV 1) aNil))) aNil)) (eC (.int 0)))) (sRet (eC .none)) sNil) (sSeq (sFor (iSeq (eFn (fun ds => noX (v_all_lots ds)) (aCons (eCall lenD (aCons (eV 1) aNil)) aNil))) (tgN 2) (sIf (tst (eFn (fun ds => noX (v_do_light ds)) (aCons (eV 0) (aCons (eV 1) (aCons (eV 2) aNil))))) (sRet (eV 2)) sNil)) (sRet (eC .none)))))
theorem ve_fewest_lamps : m_fewest_lamps = v_fewest_lamps := by unfold m_fewest_lamps v_fewest_lamps; rw [ve_check_lamps, ve_raw_dark, ve_all_lots, ve_do_light]
def v_is_lighting : List D → Res D := runF 3 3 (sSeq (sDrop (eFn (fun ds => noX (v_check_lamps ds)) (aCons (eV 0) (aCons (eV 1) aNil)))) (sRet (eAnd (eFn (fun ds => noX (v_is_lot ds)) (aCons (eV 2) (aCons (eCall lenD (aCons (eV 1) aNil)) aNil))) (eFn (fun ds => noX (v_do_light ds)) (aCons (eV 0) (aCons (eV 1) (aCons (eV 2) aNil)))))))
theorem ve_is_lighting : m_is_lighting = v_is_lighting := by unfold m_is_lighting v_is_lighting; rw [ve_check_lamps, ve_is_lot, ve_do_light]
def v_dark_stretch : List D → Res D := runF 2 6 (sSeq (sDrop (eFn (fun ds => noX (v_check_lamps ds)) (aCons (eV 0) (aCons (eV 1) aNil)))) (sSeq (sPar 2 3 (mFr (eFn (fun ds => noX (v_raw_dark ds)) (aCons (eV 0) (aCons (eV 1) aNil))) (mFr (eC .none) mNil))) (sSeq (sFor (iSeq (eV 2)) (tgN 4) (sSeq (sSet 5 (eFn (fun ds => noX (m_stretch_from ds)) (aCons (eV 0) (aCons (eV 2) (aCons (eV 4) aNil))))) (sIf (tOrF (tst (e2 isD (eV 3) (eC .none))) (tst (e2 gtD (eV 5) (e2 ixD (eV 3) (eC (.int 1)))))) (sSet 3 (eTup (aCons (eV 4) (aCons (eV 5) aNil)))) sNil))) (sRet (eV 3)))))
theorem ve_dark_stretch : m_dark_stretch = v_dark_stretch := by unfold m_dark_stretch v_dark_stretch; rw [ve_check_lamps, ve_raw_dark]
def v_is_needless : List D → Res D := runF 3 4 (sSeq (sSet 3 (e2 addD (eSlice (eV 1) oNone (oSome (eV 2))) (eSlice (eV 1) (oSome (e2 addD (eV 2) (eC (.int 1)))) oNone))) (sRet (e2 eqD (eFn (fun ds => noX (v_raw_dark ds)) (aCons (eV 0) (aCons (eV 3) aNil))) (eFn (fun ds => noX (v_raw_dark ds)) (aCons (eV 0) (aCons (eV 1) aNil))))))
theorem ve_is_needless : m_is_needless = v_is_needless := by unfold m_is_needless v_is_needless; rw [ve_raw_dark]
def v_needless : List D → Res D := runF 2 3 (sSeq (sDrop (eFn (fun ds => noX (v_check_lamps ds)) (aCons (eV 0) (aCons (eV 1) aNil)))) (sRet (eCall tupleD (aCons (eLc (iRg1 (aCons (eCall lenD (aCons (eV 1) aNil)) aNil)) [2] (tgN 2) (tst (eFn (fun ds => noX (v_is_needless ds)) (aCons (eV 0) (aCons (eV 1) (aCons (eV 2) aNil))))) (eV 2)) aNil))))
theorem ve_needless : m_needless = v_needless := by unfold m_needless v_needless; rw [ve_check_lamps, ve_is_needless]
def v_brightest : List D → Res D := runF 2 4 (sSeq (sDrop (eFn (fun ds => noX (v_check_lamps ds)) (aCons (eV 0) (aCons (eV 1) aNil)))) (sSeq (sSet 2 (eFn (fun ds => noX (v_counts_of ds)) (aCons (eV 0) (aCons (eV 1) aNil)))) (sSeq (sSet 3 (eCall maxD1 (aCons (eV 2) aNil))) (sRet (eTup (aCons (eIndex (eV 2) (eV 3)) (aCons (eV 3) aNil)))))))
theorem ve_brightest : m_brightest = v_brightest := by unfold m_brightest v_brightest; rw [ve_check_lamps, ve_counts_of]
def v_turned_lamps : List D → Res D := runF 3 5 (sSeq (sDrop (eFn (fun ds => noX (v_check_lamps ds)) (aCons (eV 0) (aCons (eV 1) aNil)))) (sSeq (sIf (tNotF (tst (eFn (fun ds => noX (v_is_within ds)) (aCons (eV 2) (aCons (eC (.int 0)) (aCons (e2 subD (eV 0) (eC (.int 1))) aNil)))))) sStk sNil) (sRet (eCall tupleD (aCons (eLc (iSeq (eV 1)) [3, 4] (tgT (tgCons (tgN 3) (tgCons (tgN 4) tgNil))) tYesF (eTup (aCons (e2 modD (e2 addD (eV 3) (eV 2)) (eV 0)) (aCons (eV 4) aNil)))) aNil)))))
theorem ve_turned_lamps : m_turned_lamps = v_turned_lamps := by unfold m_turned_lamps v_turned_lamps; rw [ve_check_lamps, ve_is_within]
def v_check_horses : List D → Res D := runF 1 1 (sIf (tOrF (tNotF (tst (eFn (fun ds => noX (v_are_within ds)) (aCons (eV 0) (aCons (eC (.int 0)) (aCons (eC (.int 5)) aNil)))))) (tNotF (tst (eChain leD leD (eC (.int 1)) (eCall lenD (aCons (eV 0) aNil)) (eC (.int 10)))))) sStk sNil)
theorem ve_check_horses : m_check_horses = v_check_horses := by unfold m_check_horses v_check_horses; rw [ve_are_within]
def v_runs : List D → Res D := runF 1 2 (sSeq (sDrop (eFn (fun ds => noX (v_check_horses ds)) (aCons (eV 0) aNil))) (sSeq (sSet 1 (eFn (fun ds => noX (m_begins_of ds)) (aCons (eV 0) aNil))) (sRet (eIf (tst (e2 gtD (eCall lenD (aCons (eV 1) aNil)) (eC (.int 0)))) (eCall tupleD (aCons (eFn (fun ds => noX (m_ways_round ds)) (aCons (eV 1) (aCons (eCall lenD (aCons (eV 0) aNil)) aNil))) aNil)) (eTup (aCons (eCall lenD (aCons (eV 0) aNil)) aNil))))))
theorem ve_runs : m_runs = v_runs := by unfold m_runs v_runs; rw [ve_check_horses]
def v_apart : List D → Res D := runF 2 5 (sSeq (sDrop (eFn (fun ds => noX (v_check_horses ds)) (aCons (eV 0) aNil))) (sSeq (sSet 2 (eLc (iEnumA (eV 0)) [3, 4] (tgT (tgCons (tgN 3) (tgCons (tgN 4) tgNil))) (tst (e2 eqD (eV 4) (eV 1))) (eV 3))) (sRet (eIf (tst (e2 gtD (eCall lenD (aCons (eV 2) aNil)) (eC (.int 0)))) (eCall maxD1 (aCons (eFn (fun ds => noX (m_ways_round ds)) (aCons (eV 2) (aCons (eCall lenD (aCons (eV 0) aNil)) aNil))) aNil)) (eC .none)))))
theorem ve_apart : m_apart = v_apart := by unfold m_apart v_apart; rw [ve_check_horses]
def v_check_switches : List D → Res D := runF 1 2 (sSeq (sIf (tOrF (tNotF (tst (e1 (isiD' "tuple") (eV 0)))) (tst (e2 gtD (eCall lenD (aCons (eV 0) aNil)) (eC (.int 8))))) sStk sNil) (sIf (tNotF (tst (eCall allD (aCons (eLc (iSeq (eV 0)) [1] (tgN 1) tYesF (eFn (fun ds => noX (v_is_lot ds)) (aCons (eV 1) (aCons (eC (.int 10)) aNil)))) aNil)))) sStk sNil))
theorem ve_check_switches : m_check_switches = v_check_switches := by unfold m_check_switches v_check_switches; rw [ve_is_lot]
def v_check_wanted : List D → Res D := runF 2 2 (sSeq (sDrop (eFn (fun ds => noX (v_check_switches ds)) (aCons (eV 0) aNil))) (sIf (tNotF (tst (eFn (fun ds => noX (v_is_lot ds)) (aCons (eV 1) (aCons (eC (.int 10)) aNil))))) sStk sNil))
theorem ve_check_wanted : m_check_wanted = v_check_wanted := by unfold m_check_wanted v_check_wanted; rw [ve_check_switches, ve_is_lot]
def v_all_shines (ds : List D) : Res D := match ds with
  | [.tuple xs] => match pL pLt xs with
    | some sw => match Nat.blt sw.length 8 && (sw.all fun l => Nat.ble l.length 1000000 && l.all fun x => Nat.blt x 10) with
      | true => .ok (.dict ((.none, .none) :: (dshK sw (allN sw.length)).map eKv))
      | false => m_all_shines ds
    | none => m_all_shines ds
  | _ => m_all_shines ds
theorem ve_all_shines : m_all_shines = v_all_shines := by
  funext ds
  unfold v_all_shines
  split
  · split
    · rename_i sw h1
      have e1 := pL_eq (fun _ _ => pLt_eq) h1
      split
      · rename_i hc
        simp only [Bool.and_eq_true, List.all_eq_true, Nat.ble_eq, Nat.blt_eq] at hc
        subst e1
        exact all_shines_ok hc.1 hc.2
      · rfl
    · rfl
  · rfl
def v_least_bar : List D → Res D := runF 2 3 (sSeq (sFor (iSeq (eFn (fun ds => noX (v_all_lots ds)) (aCons (eC (.int 10)) aNil))) (tgN 2) (sIf (tst (eFn (fun ds => noX (m_does_bar ds)) (aCons (eV 0) (aCons (eV 1) (aCons (eV 2) aNil))))) (sRet (eV 2)) sNil)) (sRet (eC .none)))
theorem ve_least_bar : m_least_bar = v_least_bar := by unfold m_least_bar v_least_bar; rw [ve_all_lots]
theorem told_ok {sw : List (List Nat)} {wt l : List Nat} {d : D} (hn : sw.length < 8) (hl : ∀ l ∈ sw, l.length ≤ 1000000 ∧ ∀ x ∈ l, x < 10) (hc : m_check_wanted [.tuple (sw.map eLt), eLt wt] = .ok d) (hk : lookK (dshK sw (allN sw.length)) wt = some l) : m_switch_told [.tuple (sw.map eLt), eLt wt] = .ok (.tuple [.str "press", eLt l]) := by
  have ha := all_shines_ok hn hl
  generalize PyData.tuple (sw.map eLt) = SW at hc ha ⊢
  generalize dshK sw (allN sw.length) = kv at ha hk
  obtain ⟨tk, htk⟩ := tkey_L wt
  refine runF_rt rfl (sSeq_ok (η1 := [.fr SW, .fr (eLt wt), .un]) (w1 := ()) ?_ (sSeq_ok (η1 := [.fr SW, .fr (eLt wt), .fr (.dict ((.none, .none) :: kv.map eKv))]) (w1 := ()) (sSet_ok (eFnW (ds := [SW]) rfl ha)) (sRet_ok ?_)))
  · unfold sDrop
    rw [eFnW (f := m_check_wanted) (ds := [SW, eLt wt]) rfl hc]
    rfl
  · have h1 : tst (eDin false (eV 1) (eV 2)) [.fr SW, .fr (eLt wt), .fr (.dict ((.none, .none) :: kv.map eKv))] () = .ok (true, ()) := by
      unfold tst eDin
      rw [e2_ok (w := ()) (η := [.fr SW, .fr (eLt wt), .fr (.dict ((.none, .none) :: kv.map eKv))]) (fa := eV 1) (fb := eV 2) (a := eLt wt) (b := .dict ((.none, .none) :: kv.map eKv)) (d := .bool true) rfl rfl (by
        dsimp only [dgetD]
        rw [htk]
        dsimp only
        rw [lookD_L, hk]
        rfl)]
      rfl
    have h2 : eDget (eV 2) (eV 1) [.fr SW, .fr (eLt wt), .fr (.dict ((.none, .none) :: kv.map eKv))] () = .ok (eLt l, ()) := by
      unfold eDget
      exact e2_ok (w := ()) (η := [.fr SW, .fr (eLt wt), .fr (.dict ((.none, .none) :: kv.map eKv))]) (fa := eV 2) (fb := eV 1) (b := eLt wt) (a := .dict ((.none, .none) :: kv.map eKv)) rfl rfl (by
        dsimp only [dgetD]
        rw [htk]
        dsimp only
        rw [lookD_L, hk]
        rfl)
    unfold eIf
    show Cw.bindM (tst (eDin false (eV 1) (eV 2)) [.fr SW, .fr (eLt wt), .fr (.dict ((.none, .none) :: kv.map eKv))] ()) _ = _
    rw [h1]
    dsimp only [Cw.bindM]
    unfold eTup
    rw [aCons_ok (η := [.fr SW, .fr (eLt wt), .fr (.dict ((.none, .none) :: kv.map eKv))]) (w := ()) (fa := eC (.str "press")) rfl (aCons_ok h2 rfl)]
    rfl
def v_switch_told (ds : List D) : Res D := match ds with
  | [.tuple xs, .tuple ys] => match pL pLt xs, pL pN ys with
    | some sw, some wt => match Nat.blt sw.length 8 && (sw.all fun l => Nat.ble l.length 1000000 && l.all fun x => Nat.blt x 10), v_check_wanted [.tuple xs, .tuple ys] with
      | true, .ok _ => match lookK (dshK sw (allN sw.length)) wt with
        | some l => .ok (.tuple [.str "press", eLt l])
        | none => m_switch_told ds
      | _, _ => m_switch_told ds
    | _, _ => m_switch_told ds
  | _ => m_switch_told ds
theorem ve_switch_told : m_switch_told = v_switch_told := by
  funext ds
  unfold v_switch_told
  split
  · split
    · rename_i sw wt h1 h2
      have e1 := pL_eq (fun _ _ => pLt_eq) h1
      have e2 := pL_eq (fun _ _ => pN_eq) h2
      split
      · rename_i hc hw
        split
        · rename_i l hk
          simp only [Bool.and_eq_true, List.all_eq_true, Nat.ble_eq, Nat.blt_eq] at hc
          subst e1 e2
          rw [← ve_check_wanted] at hw
          exact told_ok hc.1 hc.2 hw hk
        · rfl
      · rfl
    · rfl
  · rfl
def v_shine : List D → Res D := runF 2 2 (sSeq (sDrop (eFn (fun ds => noX (v_check_switches ds)) (aCons (eV 0) aNil))) (sSeq (sIf (tNotF (tst (eFn (fun ds => noX (v_is_lot ds)) (aCons (eV 1) (aCons (eCall lenD (aCons (eV 0) aNil)) aNil))))) sStk sNil) (sRet (eFn (fun ds => noX (v_raw_shine ds)) (aCons (eV 0) (aCons (eV 1) aNil))))))
theorem ve_shine : m_shine = v_shine := by unfold m_shine v_shine; rw [ve_check_switches, ve_is_lot, ve_raw_shine]
def v_looks_many : List D → Res D := runF 1 1 (sSeq (sDrop (eFn (fun ds => noX (v_check_switches ds)) (aCons (eV 0) aNil))) (sRet (eCall lenTD (aCons (eFn (fun ds => noX (v_all_shines ds)) (aCons (eV 0) aNil)) aNil))))
theorem ve_looks_many : m_looks_many = v_looks_many := by unfold m_looks_many v_looks_many; rw [ve_check_switches, ve_all_shines]
def v_idle_press : List D → Res D := runF 1 2 (sSeq (sDrop (eFn (fun ds => noX (v_check_switches ds)) (aCons (eV 0) aNil))) (sSeq (sFor (iSeq (eSlice (eFn (fun ds => noX (v_all_lots ds)) (aCons (eCall lenD (aCons (eV 0) aNil)) aNil)) (oSome (eC (.int 1))) oNone)) (tgN 1) (sIf (tst (e2 eqD (eFn (fun ds => noX (v_raw_shine ds)) (aCons (eV 0) (aCons (eV 1) aNil))) (eTup aNil))) (sRet (eV 1)) sNil)) (sRet (eC .none))))
theorem ve_idle_press : m_idle_press = v_idle_press := by unfold m_idle_press v_idle_press; rw [ve_check_switches, ve_all_lots, ve_raw_shine]
def v_most_lights : List D → Res D := runF 1 2 (sSeq (sDrop (eFn (fun ds => noX (v_check_switches ds)) (aCons (eV 0) aNil))) (sRet (eCall maxD1 (aCons (eLc (iKeysF (eFn (fun ds => noX (v_all_shines ds)) (aCons (eV 0) aNil))) [1] (tgN 1) tYesF (eCall lenD (aCons (eV 1) aNil))) aNil))))
theorem ve_most_lights : m_most_lights = v_most_lights := by unfold m_most_lights v_most_lights; rw [ve_check_switches, ve_all_shines]
def v__law_is_lit_right : List D → Res D := runF 3 6 (sSeq (sSet 3 (eRgT (g1 (eCall lenD (aCons (eV 2) aNil))))) (sSeq (sIf (tOrF (tst (e2 neD (eFn (fun ds => noX (v_lit ds)) (aCons (eV 0) (aCons (eV 2) aNil))) (eRgT (g1 (eV 0))))) (tOrF (tst (e2 isnD (eFn (fun ds => noX (v_dark ds)) (aCons (eV 0) (aCons (eV 2) aNil))) (eC .none))) (tst (e2 neD (eFn (fun ds => noX (v_needless ds)) (aCons (eV 0) (aCons (eV 2) aNil))) (eTup aNil))))) (sRet (eC (.bool false))) sNil) (sSeq (sIf (tOrF (tst (e2 neD (eFn (fun ds => noX (v_fewest_lamps ds)) (aCons (eV 0) (aCons (eV 2) aNil))) (eV 3))) (tst (e2 isnD (eFn (fun ds => noX (v_is_lighting ds)) (aCons (eV 0) (aCons (eV 2) (aCons (eV 3) aNil)))) (eC (.bool true))))) (sRet (eC (.bool false))) sNil) (sSeq (sIf (tOrF (tst (e2 neD (eCall maxD1 (aCons (eLc (iSeq (eV 2)) [4, 5] (tgT (tgCons (tgN 4) (tgCons (tgN 5) tgNil))) tYesF (eV 5)) aNil)) (eFn (fun ds => noX (v_apart ds)) (aCons (eV 1) (aCons (eC (.int 1)) aNil))))) (tst (e2 neD (eFn (fun ds => noX (v_brightest ds)) (aCons (eV 0) (aCons (eV 2) aNil))) (eTup (aCons (eC (.int 0)) (aCons (eC (.int 1)) aNil)))))) (sRet (eC (.bool false))) sNil) (sSeq (sIf (tOrF (tst (e2 neD (eCall sumD (aCons (eLc (iSeq (eV 2)) [4, 5] (tgT (tgCons (tgN 4) (tgCons (tgN 5) tgNil))) tYesF (eV 5)) aNil)) (eV 0))) (tst (e2 gtD (eCall lenD (aCons (eFn (fun ds => noX (v_runs ds)) (aCons (eV 1) aNil)) aNil)) (e2 mulD (eC (.int 2)) (eCall lenD (aCons (eV 2) aNil)))))) (sRet (eC (.bool false))) sNil) (sRet (e2 eqD (eFn (fun ds => noX (v_lit ds)) (aCons (eV 0) (aCons (eFn (fun ds => noX (v_turned_lamps ds)) (aCons (eV 0) (aCons (eV 2) (aCons (eC (.int 1)) aNil)))) aNil))) (eRgT (g1 (eV 0))))))))))
theorem ve__law_is_lit_right : m__law_is_lit_right = v__law_is_lit_right := by unfold m__law_is_lit_right v__law_is_lit_right; rw [ve_lit, ve_dark, ve_needless, ve_fewest_lamps, ve_is_lighting, ve_apart, ve_brightest, ve_runs, ve_turned_lamps]
def v__law_is_dark_right : List D → Bag → Res (D × Bag) := runS 2 10 (sSeq (sSet 3 (eFnS 0 m__law_pick (aCons (eCall lenD (aCons (eV 2) aNil)) aNil))) (sSeq (sSet 4 (e2 addD (eSlice (eV 2) oNone (oSome (eV 3))) (eSlice (eV 2) (oSome (e2 addD (eV 3) (eC (.int 1)))) oNone))) (sSeq (sIf (tOrF (tst (e2 neD (eFn (fun ds => noX (v_dark_stretch ds)) (aCons (eV 1) (aCons (eV 4) aNil))) (e2 ixD (eV 2) (eV 3)))) (tst (e2 isnD (eFn (fun ds => noX (v_is_lighting ds)) (aCons (eV 1) (aCons (eV 2) (aCons (eRgT (g2 (eC (.int 1)) (eCall lenD (aCons (eV 2) aNil)))) aNil)))) (eC (.bool false))))) (sRet (eC (.bool false))) sNil) (sSeq (sAsg (e2 ixD (eV 2) (eV 3)) (tgT (tgCons (tgN 5) (tgCons (tgN 6) tgNil)))) (sSeq (sSet 7 (eCall sortedD1 (aCons (eLc (iRg1 (aCons (eV 6) aNil)) [8] (tgN 8) tYesF (e2 modD (eCall intD (aCons (e2 addD (eV 5) (eV 8)) aNil)) (eV 1))) aNil))) (sRet (e2 eqD (eFn (fun ds => noX (v_lit ds)) (aCons (eV 1) (aCons (eV 4) aNil))) (eCall tupleD (aCons (eLc (iRg1 (aCons (eV 1) aNil)) [9] (tgN 9) (tst (e2 ninD (eV 9) (eV 7))) (eV 9)) aNil)))))))))
theorem ve__law_is_dark_right : m__law_is_dark_right = v__law_is_dark_right := by unfold m__law_is_dark_right v__law_is_dark_right; rw [ve_dark_stretch, ve_is_lighting, ve_lit]
def v__law_is_pressed_right : List D → Bag → Res (D × Bag) := runS 2 9 (sSeq (sSet 3 (eCall tupleD (aCons (eLc (iSeq (eV 2)) [7] (tgN 7) tYesF (eFn (fun ds => noX (v_lit ds)) (aCons (eV 1) (aCons (eTup (aCons (eV 7) aNil)) aNil)))) aNil))) (sSeq (sSet 4 (eRgT (g1 (eCall lenD (aCons (eV 2) aNil))))) (sSeq (sIf (tOrF (tst (e2 neD (eFn (fun ds => noX (v_shine ds)) (aCons (eV 3) (aCons (eV 4) aNil))) (eRgT (g1 (eV 1))))) (tst (e2 neD (eFn (fun ds => noX (v_most_lights ds)) (aCons (eV 3) aNil)) (eV 1)))) (sRet (eC (.bool false))) sNil) (sSeq (sIf (tOrF (tst (e2 neD (eFn (fun ds => noX (v_looks_many ds)) (aCons (eV 3) aNil)) (eCall lenD (aCons (eFn (fun ds => noX (m__law_lots ds)) (aCons (eCall lenD (aCons (eV 2) aNil)) aNil)) aNil)))) (tst (e2 isnD (eFn (fun ds => noX (v_idle_press ds)) (aCons (eV 3) aNil)) (eC .none)))) (sRet (eC (.bool false))) sNil) (sSeq (sSet 5 (eFnS 0 m__law_some (aCons (eFn (fun ds => noX (m__law_lots ds)) (aCons (eCall lenD (aCons (eV 2) aNil)) aNil)) aNil))) (sSeq (sSet 6 (eFn (fun ds => noX (v_lit ds)) (aCons (eV 1) (aCons (eCall tupleD (aCons (eLc (iSeq (eV 5)) [8] (tgN 8) tYesF (e2 ixD (eV 2) (eV 8))) aNil)) aNil)))) (sRet (eAnd (e2 eqD (eFn (fun ds => noX (v_shine ds)) (aCons (eV 3) (aCons (eV 5) aNil))) (eV 6)) (e2 eqD (eFn (fun ds => noX (v_switch_told ds)) (aCons (eV 3) (aCons (eV 6) aNil))) (eTup (aCons (eC (.str "press")) (aCons (eV 5) aNil))))))))))))
theorem ve__law_is_pressed_right : m__law_is_pressed_right = v__law_is_pressed_right := by unfold m__law_is_pressed_right v__law_is_pressed_right; rw [ve_lit, ve_shine, ve_most_lights, ve_looks_many, ve_idle_press, ve_switch_told]
def v_law : FS Bag := (sSeq (sIf (tOrF (tst (e2 neD (eFn (fun ds => noX (v_lit ds)) (aCons (eC (.int 4)) (aCons (eTup (aCons (eTup (aCons (eC (.int 3)) (aCons (eC (.int 2)) aNil))) aNil)) aNil))) (eTup (aCons (eC (.int 0)) (aCons (eC (.int 3)) aNil))))) (tOrF (tst (e2 neD (eFn (fun ds => noX (m_evenly ds)) (aCons (eC (.int 4)) (aCons (eC (.int 2)) aNil))) (eTup (aCons (eC (.int 0)) (aCons (eC (.int 1)) (aCons (eC (.int 0)) (aCons (eC (.int 1)) aNil))))))) (tst (e2 neD (eFn (fun ds => noX (v_shine ds)) (aCons (eTup (aCons (eTup (aCons (eC (.int 0)) (aCons (eC (.int 1)) aNil))) (aCons (eTup (aCons (eC (.int 1)) (aCons (eC (.int 2)) aNil))) aNil))) (aCons (eTup (aCons (eC (.int 0)) (aCons (eC (.int 1)) aNil))) aNil))) (eTup (aCons (eC (.int 0)) (aCons (eC (.int 2)) aNil))))))) (sRet (eC (.bool false))) sNil) (sSeq (sFor (iRg1 (aCons (eC (.int 5)) aNil)) (tgN 2) (sSeq (sSet 3 (e2 addD (eC (.int 3)) (eFnS 1 m__law_pick (aCons (eC (.int 7)) aNil)))) (sSeq (sSet 4 (eFn (fun ds => noX (m_evenly ds)) (aCons (eV 3) (aCons (e2 addD (eC (.int 2)) (eFnS 1 m__law_pick (aCons (eCall minD1 (aCons (e2 subD (eV 3) (eC (.int 2))) (aCons (eC (.int 6)) aNil))) aNil))) aNil)))) (sSeq (sSet 5 (eFnS 1 m__law_pick (aCons (eV 3) aNil))) (sSeq (sSet 4 (e2 addD (eSlice (eV 4) (oSome (eV 5)) oNone) (eSlice (eV 4) oNone (oSome (eV 5))))) (sSeq (sSet 6 (eFn (fun ds => noX (m__law_lamps ds)) (aCons (eV 4) aNil))) (sSeq (sIf (tOrF (tNotF (tst (eFn (fun ds => noX (v__law_is_lit_right ds)) (aCons (eV 3) (aCons (eV 4) (aCons (eV 6) aNil)))))) (tNotF (tst (eFnS 1 v__law_is_dark_right (aCons (eV 3) (aCons (eV 6) aNil)))))) (sRet (eC (.bool false))) sNil) (sIf (tNotF (tst (eFnS 1 v__law_is_pressed_right (aCons (eV 3) (aCons (eV 6) aNil))))) (sRet (eC (.bool false))) sNil)))))))) (sRet (eC (.bool true)))))
theorem ve_law : g_law = v_law := by unfold g_law v_law; rw [ve_lit, ve_shine, ve__law_is_lit_right, ve__law_is_dark_right, ve__law_is_pressed_right]
end Lw

namespace Lw
open PySem PySem.Spec PyProof.Rows L2 Cw
def isT (r : Res D) : Bool := match r with
  | .ok (.bool true) => true
  | _ => false
theorem isT_eq {r : Res D} (h : isT r = true) : r = .ok (.bool true) := by
  unfold isT at h; split at h
  · rfl
  · cases h
def isRT (r : Res (Out × Unit)) : Bool := match r with
  | .ok (.rt (.bool true), _) => true
  | _ => false
theorem isRT_eq {r : Res (Out × Unit)} (h : isRT r = true) : r = .ok (.rt (.bool true), ()) := by
  unfold isRT at h; split at h
  · rfl
  · cases h
theorem sSeq_assoc {W : Type} (a b c : FS W) : sSeq (sSeq a b) c = sSeq a (sSeq b c) := by
  funext η w
  unfold sSeq
  generalize a η w = r
  match r with
  | .ok (.nx η', w1) => rfl
  | .ok (.bk _, _) => rfl
  | .ok (.ct _, _) => rfl
  | .ok (.rt _, _) => rfl
  | .exc _ => rfl
  | .stk => rfl
theorem runS_rt {W : Type} {n N : Nat} {g : FS W} {ds : List D} {w w1 : W} {d : D} (hn : Nat.beq ds.length n = true) (h : g (Slot.hd :: (ds.map Slot.fr ++ List.replicate (N - (n + 1)) Slot.un)) w = .ok (.rt d, w1)) : runS n N g ds w = .ok (d, w1) := by
  unfold runS; rw [hn]; dsimp only; rw [h]
theorem eFnS_ok {W : Type} {i : Nat} {m : List D → W → Res (D × W)} {fs : FA W} {η : EnvD} {w w1 w2 : W} {ds : List D} {d : D} (hi : η[i]? = some .hd) (h1 : fs η w = .ok (ds, w1)) (h2 : m ds w1 = .ok (d, w2)) : eFnS i m fs η w = .ok (d, w2) := by
  unfold eFnS; rw [hi]; dsimp only; rw [h1]; dsimp only [Cw.bindM]; rw [h2]; rfl
theorem pick_ok {n : Int} (h : 0 < n) (h2 : n < 1000000) (b : Bag) : ∃ v b', 0 ≤ v ∧ v < n ∧ m__law_pick [.int n] b = .ok (.int v, b') := by
  refine ⟨(pickB n b).1, (pickB n b).2, (pickB_range h b).1, (pickB_range h b).2, ?_⟩
  show m_pick [.int n] b = _
  unfold m_pick
  dsimp only
  rw [decide_eq_true h, decide_eq_true h2]
  rfl
theorem some_ok {xs : List D} (h : 0 < xs.length) (h2 : xs.length < 1000000) (b : Bag) : ∃ d b', d ∈ xs ∧ m__law_some [.list xs] b = .ok (d, b') := by
  obtain ⟨v, b', h0, h1, e⟩ := pick_ok (n := xs.length) (by omega) (by omega) b
  obtain ⟨p, rfl⟩ : ∃ p : Nat, v = (p : Int) := ⟨v.toNat, by omega⟩
  have hp : p < xs.length := by omega
  refine ⟨xs[p], b', List.getElem_mem _, runS_rt rfl (sRet_ok (e2_ok rfl (eFnS_ok rfl (aCons_ok (eCall_ok (ds := [.list xs]) rfl rfl) rfl) e) (ixD_list hp)))⟩

def darkR : FS Unit := (sSeq (sSet 4 (e2 addD (eSlice (eV 2) oNone (oSome (eV 3))) (eSlice (eV 2) (oSome (e2 addD (eV 3) (eC (.int 1)))) oNone))) (sSeq (sIf (tOrF (tst (e2 neD (eFn (fun ds => noX (v_dark_stretch ds)) (aCons (eV 1) (aCons (eV 4) aNil))) (e2 ixD (eV 2) (eV 3)))) (tst (e2 isnD (eFn (fun ds => noX (v_is_lighting ds)) (aCons (eV 1) (aCons (eV 2) (aCons (eRgT (g2 (eC (.int 1)) (eCall lenD (aCons (eV 2) aNil)))) aNil)))) (eC (.bool false))))) (sRet (eC (.bool false))) sNil) (sSeq (sAsg (e2 ixD (eV 2) (eV 3)) (tgT (tgCons (tgN 5) (tgCons (tgN 6) tgNil)))) (sSeq (sSet 7 (eCall sortedD1 (aCons (eLc (iRg1 (aCons (eV 6) aNil)) [8] (tgN 8) tYesF (e2 modD (eCall intD (aCons (e2 addD (eV 5) (eV 8)) aNil)) (eV 1))) aNil))) (sRet (e2 eqD (eFn (fun ds => noX (v_lit ds)) (aCons (eV 1) (aCons (eV 4) aNil))) (eCall tupleD (aCons (eLc (iRg1 (aCons (eV 1) aNil)) [9] (tgN 9) (tst (e2 ninD (eV 9) (eV 7))) (eV 9)) aNil))))))))
def darkOk (s l : D) (at_ : Nat) : Bool := isRT (darkR [.hd, .fr s, .fr l, .fr (iD at_), .un, .un, .un, .un, .un, .un] ())
theorem dark_ok {s : D} {ls : List D} (h0 : 0 < ls.length) (h1 : ls.length < 1000000) (h : ((List.range ls.length).all (darkOk s (.tuple ls))) = true) (b : Bag) : ∃ b', v__law_is_dark_right [s, .tuple ls] b = .ok (.bool true, b') := by
  obtain ⟨v, b', h2, h3, e⟩ := pick_ok (n := ls.length) (by omega) (by omega) b
  obtain ⟨p, rfl⟩ : ∃ p : Nat, v = (p : Int) := ⟨v.toNat, by omega⟩
  have k := isRT_eq (List.all_eq_true.mp h p (List.mem_range.mpr (by omega)))
  have hnt : Nt (W := Bag) (sSeq (sSet 4 (e2 addD (eSlice (eV 2) oNone (oSome (eV 3))) (eSlice (eV 2) (oSome (e2 addD (eV 3) (eC (.int 1)))) oNone))) (sSeq (sIf (tOrF (tst (e2 neD (eFn (fun ds => noX (v_dark_stretch ds)) (aCons (eV 1) (aCons (eV 4) aNil))) (e2 ixD (eV 2) (eV 3)))) (tst (e2 isnD (eFn (fun ds => noX (v_is_lighting ds)) (aCons (eV 1) (aCons (eV 2) (aCons (eRgT (g2 (eC (.int 1)) (eCall lenD (aCons (eV 2) aNil)))) aNil)))) (eC (.bool false))))) (sRet (eC (.bool false))) sNil) (sSeq (sAsg (e2 ixD (eV 2) (eV 3)) (tgT (tgCons (tgN 5) (tgCons (tgN 6) tgNil)))) (sSeq (sSet 7 (eCall sortedD1 (aCons (eLc (iRg1 (aCons (eV 6) aNil)) [8] (tgN 8) tYesF (e2 modD (eCall intD (aCons (e2 addD (eV 5) (eV 8)) aNil)) (eV 1))) aNil))) (sRet (e2 eqD (eFn (fun ds => noX (v_lit ds)) (aCons (eV 1) (aCons (eV 4) aNil))) (eCall tupleD (aCons (eLc (iRg1 (aCons (eV 1) aNil)) [9] (tgN 9) (tst (e2 ninD (eV 9) (eV 7))) (eV 9)) aNil)))))))) darkR := by unfold darkR; infer_instance
  exact ⟨b', runS_rt rfl (sSeq_ok (sSet_ok (eFnS_ok rfl (aCons_ok (eCall_ok (ds := [.tuple ls]) rfl rfl) rfl) e)) (hnt.ok k b'))⟩
def pressA : FS Unit := (sSeq (sSet 3 (eCall tupleD (aCons (eLc (iSeq (eV 2)) [7] (tgN 7) tYesF (eFn (fun ds => noX (v_lit ds)) (aCons (eV 1) (aCons (eTup (aCons (eV 7) aNil)) aNil)))) aNil))) (sSeq (sSet 4 (eRgT (g1 (eCall lenD (aCons (eV 2) aNil))))) (sSeq (sIf (tOrF (tst (e2 neD (eFn (fun ds => noX (v_shine ds)) (aCons (eV 3) (aCons (eV 4) aNil))) (eRgT (g1 (eV 1))))) (tst (e2 neD (eFn (fun ds => noX (v_most_lights ds)) (aCons (eV 3) aNil)) (eV 1)))) (sRet (eC (.bool false))) sNil) (sIf (tOrF (tst (e2 neD (eFn (fun ds => noX (v_looks_many ds)) (aCons (eV 3) aNil)) (eCall lenD (aCons (eFn (fun ds => noX (m__law_lots ds)) (aCons (eCall lenD (aCons (eV 2) aNil)) aNil)) aNil)))) (tst (e2 isnD (eFn (fun ds => noX (v_idle_press ds)) (aCons (eV 3) aNil)) (eC .none)))) (sRet (eC (.bool false))) sNil))))
def pressF : FA Unit := (aCons (eFn (fun ds => noX (m__law_lots ds)) (aCons (eCall lenD (aCons (eV 2) aNil)) aNil)) aNil)
def pressR : FS Unit := (sSeq (sSet 6 (eFn (fun ds => noX (v_lit ds)) (aCons (eV 1) (aCons (eCall tupleD (aCons (eLc (iSeq (eV 5)) [8] (tgN 8) tYesF (e2 ixD (eV 2) (eV 8))) aNil)) aNil)))) (sRet (eAnd (e2 eqD (eFn (fun ds => noX (v_shine ds)) (aCons (eV 3) (aCons (eV 5) aNil))) (eV 6)) (e2 eqD (eFn (fun ds => noX (v_switch_told ds)) (aCons (eV 3) (aCons (eV 6) aNil))) (eTup (aCons (eC (.str "press")) (aCons (eV 5) aNil)))))))
def hdOk (η : EnvD) : Bool := match (η[0]? : Option Cw.Slot) with
  | some Slot.hd => true
  | _ => false
def pressOk (s l : D) : Bool := match pressA [.hd, .fr s, .fr l, .un, .un, .un, .un, .un, .un] () with
  | .ok (.nx η, _) => match pressF η () with
    | .ok ([.list lots], _) => hdOk η && (Nat.blt 0 lots.length && (Nat.blt lots.length 1000000 && lots.all fun lot => isRT (pressR (η.set 5 (.fr lot)) ())))
    | _ => false
  | _ => false
theorem press_ok {s l : D} (h : pressOk s l = true) (b : Bag) : ∃ b', v__law_is_pressed_right [s, l] b = .ok (.bool true, b') := by
  unfold pressOk at h
  split at h
  · rename_i η u hA
    split at h
    · rename_i lots u2 hF
      simp only [Bool.and_eq_true, Nat.blt_eq] at h
      obtain ⟨hh, h0, h1, h2⟩ := h
      have hd : η[0]? = some Slot.hd := by
        unfold hdOk at hh; split at hh
        · assumption
        · cases hh
      obtain ⟨d, b', hm, e⟩ := some_ok h0 h1 b
      have k := isRT_eq (List.all_eq_true.mp h2 d hm)
      have n1 : Nt (W := Bag) (sSeq (sSet 3 (eCall tupleD (aCons (eLc (iSeq (eV 2)) [7] (tgN 7) tYesF (eFn (fun ds => noX (v_lit ds)) (aCons (eV 1) (aCons (eTup (aCons (eV 7) aNil)) aNil)))) aNil))) (sSeq (sSet 4 (eRgT (g1 (eCall lenD (aCons (eV 2) aNil))))) (sSeq (sIf (tOrF (tst (e2 neD (eFn (fun ds => noX (v_shine ds)) (aCons (eV 3) (aCons (eV 4) aNil))) (eRgT (g1 (eV 1))))) (tst (e2 neD (eFn (fun ds => noX (v_most_lights ds)) (aCons (eV 3) aNil)) (eV 1)))) (sRet (eC (.bool false))) sNil) (sIf (tOrF (tst (e2 neD (eFn (fun ds => noX (v_looks_many ds)) (aCons (eV 3) aNil)) (eCall lenD (aCons (eFn (fun ds => noX (m__law_lots ds)) (aCons (eCall lenD (aCons (eV 2) aNil)) aNil)) aNil)))) (tst (e2 isnD (eFn (fun ds => noX (v_idle_press ds)) (aCons (eV 3) aNil)) (eC .none)))) (sRet (eC (.bool false))) sNil)))) pressA := by unfold pressA; infer_instance
      have n2 : Nt (W := Bag) (aCons (eFn (fun ds => noX (m__law_lots ds)) (aCons (eCall lenD (aCons (eV 2) aNil)) aNil)) aNil) pressF := by unfold pressF; infer_instance
      have n3 : Nt (W := Bag) (sSeq (sSet 6 (eFn (fun ds => noX (v_lit ds)) (aCons (eV 1) (aCons (eCall tupleD (aCons (eLc (iSeq (eV 5)) [8] (tgN 8) tYesF (e2 ixD (eV 2) (eV 8))) aNil)) aNil)))) (sRet (eAnd (e2 eqD (eFn (fun ds => noX (v_shine ds)) (aCons (eV 3) (aCons (eV 5) aNil))) (eV 6)) (e2 eqD (eFn (fun ds => noX (v_switch_told ds)) (aCons (eV 3) (aCons (eV 6) aNil))) (eTup (aCons (eC (.str "press")) (aCons (eV 5) aNil))))))) pressR := by unfold pressR; infer_instance
      have e1 := sSeq_ok (gb := sSeq (sSet 5 (eFnS 0 m__law_some (aCons (eFn (fun ds => noX (m__law_lots ds)) (aCons (eCall lenD (aCons (eV 2) aNil)) aNil)) aNil))) (sSeq (sSet 6 (eFn (fun ds => noX (v_lit ds)) (aCons (eV 1) (aCons (eCall tupleD (aCons (eLc (iSeq (eV 5)) [8] (tgN 8) tYesF (e2 ixD (eV 2) (eV 8))) aNil)) aNil)))) (sRet (eAnd (e2 eqD (eFn (fun ds => noX (v_shine ds)) (aCons (eV 3) (aCons (eV 5) aNil))) (eV 6)) (e2 eqD (eFn (fun ds => noX (v_switch_told ds)) (aCons (eV 3) (aCons (eV 6) aNil))) (eTup (aCons (eC (.str "press")) (aCons (eV 5) aNil)))))))) (n1.ok hA b) (sSeq_ok (sSet_ok (eFnS_ok hd (n2.ok hF b) e)) (n3.ok k b'))
      rw [sSeq_assoc, sSeq_assoc, sSeq_assoc] at e1
      exact ⟨b', runS_rt rfl e1⟩
    · cases h
  · cases h
def lapOk (s m y : Nat) : Bool := match m_evenly [iD s, iD m] with
  | .ok (.tuple l) => match addD (.tuple (cutL l (some (y : Int)) none)) (.tuple (cutL l none (some (y : Int)))) with
    | .ok row => match m__law_lamps [row] with
      | .ok (.tuple ls) => isT (v__law_is_lit_right [iD s, row, .tuple ls]) && (Nat.blt 0 ls.length && (Nat.blt ls.length 1000000 && ((List.range ls.length).all (darkOk (iD s) (.tuple ls)) && pressOk (iD s) (.tuple ls))))
      | _ => false
    | _ => false
  | _ => false
structure Lap (s m y : Nat) : Prop where
  x : ∃ l row ls, m_evenly [iD s, iD m] = .ok (.tuple l) ∧ addD (.tuple (cutL l (some (y : Int)) none)) (.tuple (cutL l none (some (y : Int)))) = .ok row ∧ m__law_lamps [row] = .ok ls ∧ v__law_is_lit_right [iD s, row, ls] = .ok (.bool true) ∧ (∀ b, ∃ b', v__law_is_dark_right [iD s, ls] b = .ok (.bool true, b')) ∧ ∀ b, ∃ b', v__law_is_pressed_right [iD s, ls] b = .ok (.bool true, b')
theorem lap_of {s m y : Nat} (h : lapOk s m y = true) : Lap s m y := by
  unfold lapOk at h
  split at h
  · rename_i l h1
    split at h
    · rename_i row h2
      split at h
      · rename_i ls h3
        simp only [Bool.and_eq_true, Nat.blt_eq] at h
        obtain ⟨a, b, c, d, e⟩ := h
        exact ⟨l, row, _, h1, h2, h3, isT_eq a, dark_ok b c d, press_ok e⟩
      · cases h
    · cases h
  · cases h

def lapB : FS Bag := (sSeq (sSet 3 (e2 addD (eC (.int 3)) (eFnS 1 m__law_pick (aCons (eC (.int 7)) aNil)))) (sSeq (sSet 4 (eFn (fun ds => noX (m_evenly ds)) (aCons (eV 3) (aCons (e2 addD (eC (.int 2)) (eFnS 1 m__law_pick (aCons (eCall minD1 (aCons (e2 subD (eV 3) (eC (.int 2))) (aCons (eC (.int 6)) aNil))) aNil))) aNil)))) (sSeq (sSet 5 (eFnS 1 m__law_pick (aCons (eV 3) aNil))) (sSeq (sSet 4 (e2 addD (eSlice (eV 4) (oSome (eV 5)) oNone) (eSlice (eV 4) oNone (oSome (eV 5))))) (sSeq (sSet 6 (eFn (fun ds => noX (m__law_lamps ds)) (aCons (eV 4) aNil))) (sSeq (sIf (tOrF (tNotF (tst (eFn (fun ds => noX (v__law_is_lit_right ds)) (aCons (eV 3) (aCons (eV 4) (aCons (eV 6) aNil)))))) (tNotF (tst (eFnS 1 v__law_is_dark_right (aCons (eV 3) (aCons (eV 6) aNil)))))) (sRet (eC (.bool false))) sNil) (sIf (tNotF (tst (eFnS 1 v__law_is_pressed_right (aCons (eV 3) (aCons (eV 6) aNil))))) (sRet (eC (.bool false))) sNil)))))))
def LP (η : EnvD) : Prop := ∃ a2 a3 a4 a5 a6, η = [.un, .hd, a2, a3, a4, a5, a6]
theorem lap_run (T : ∀ s m y : Nat, 3 ≤ s → s ≤ 9 → 2 ≤ m → m < 2 + min (s - 2) 6 → y < s → Lap s m y) {η : EnvD} (h : LP η) (b : Bag) : ∃ η' b', lapB η b = .ok (.nx η', b') ∧ LP η' := by
  obtain ⟨a2, a3, a4, a5, a6, rfl⟩ := h
  obtain ⟨v, b1, h0, h1, e1⟩ := pick_ok (n := 7) (by omega) (by omega) b
  obtain ⟨v, rfl⟩ : ∃ p : Nat, v = (p : Int) := ⟨v.toNat, by omega⟩
  obtain ⟨m, b2, h2, h3, e2'⟩ := pick_ok (n := ((min (v + 1) 6 : Nat) : Int)) (by omega) (by omega) b1
  obtain ⟨m, rfl⟩ : ∃ p : Nat, m = (p : Int) := ⟨m.toNat, by omega⟩
  obtain ⟨y, b3, h4, h5, e3⟩ := pick_ok (n := ((3 + v : Nat) : Int)) (by omega) (by omega) b2
  obtain ⟨y, rfl⟩ : ∃ p : Nat, y = (p : Int) := ⟨y.toNat, by omega⟩
  obtain ⟨l, row, ls, q1, q2, q3, q4, q5, q6⟩ := (T (3 + v) (2 + m) y (by omega) (by omega) (by omega) (by omega) (by omega)).x
  obtain ⟨b4, q5⟩ := q5 b3
  obtain ⟨b5, q6⟩ := q6 b4
  refine ⟨[.un, .hd, a2, .fr (iD (3 + v)), .fr row, .fr (iD y), .fr ls], b5, ?_, _, _, _, _, _, rfl⟩
  have hmin : minD1 [.int ((3 + v : Nat) - 2 : Int), .int 6] = .ok (.int ((min (v + 1) 6 : Nat) : Int)) := by
    show Res.ok (PyData.int (if (6 : Int) < ((3 + v : Nat) - 2 : Int) then 6 else ((3 + v : Nat) - 2 : Int))) = _
    congr 2
    split <;> omega
  unfold lapB
  refine sSeq_ok (sSet_ok (a := iD (3 + v)) (e2_ok rfl (eFnS_ok rfl (aCons_ok rfl rfl) e1) ?_)) ?_
  · show Res.ok (PyData.int (3 + (v : Int))) = _
    unfold iD
    congr 2
  refine sSeq_ok (sSet_ok (a := .tuple l) (eFn_ok (ds := [iD (3 + v), iD (2 + m)]) (aCons_ok rfl (aCons_ok (e2_ok rfl (eFnS_ok rfl (aCons_ok (eCall_ok (aCons_ok (e2_ok rfl rfl rfl) (aCons_ok rfl rfl)) hmin) rfl) e2') ?_) rfl)) ?_)) ?_
  · show Res.ok (PyData.int (2 + (m : Int))) = _
    unfold iD
    congr 2
  · show noX (m_evenly _) = _
    rw [q1]; rfl
  refine sSeq_ok (sSet_ok (eFnS_ok rfl (aCons_ok rfl rfl) e3)) ?_
  refine sSeq_ok (sSet_ok (e2_ok (a := .tuple (cutL l (some (y : Int)) none)) (b := .tuple (cutL l none (some (y : Int)))) rfl rfl q2)) ?_
  refine sSeq_ok (sSet_ok (eFn_ok (ds := [row]) rfl (show noX (m__law_lamps [row]) = .ok ls by rw [q3]; rfl))) ?_
  refine sSeq_ok (sIf_false (w1 := b4) (tOr_f (w1 := b3) (tNot_b (b := true) (tst_b (eFn_ok (ds := [iD (3 + v), row, ls]) rfl (show noX (v__law_is_lit_right [iD (3 + v), row, ls]) = .ok (.bool true) by rw [q4]; rfl)))) (tNot_b (b := true) (tst_b (eFnS_ok (ds := [iD (3 + v), ls]) rfl rfl q5)))) rfl) ?_
  exact sIf_false (w1 := b5) (tNot_b (b := true) (tst_b (eFnS_ok (ds := [iD (3 + v), ls]) rfl rfl q6))) rfl
theorem forL_st {W : Type} {tg : TgF W} {g : FS W} (P : EnvD → Prop) : ∀ (ds : List D) (η : EnvD) (w : W), (∀ d ∈ ds, ∀ η w, P η → ∃ η' w', Cw.bindM (tg d η w) (fun η1 w1 => g η1 w1) = .ok (.nx η', w') ∧ P η') → P η → ∃ η' w', forL tg g ds η w = .ok (.nx η', w') ∧ P η'
  | [], η, w, h, p => ⟨η, w, rfl, p⟩
  | d :: r, η, w, h, p => by
    obtain ⟨η1, w1, e, p1⟩ := h d (List.mem_cons_self ..) η w p
    obtain ⟨η2, w2, e2, p2⟩ := forL_st P r η1 w1 (fun d hd => h d (List.mem_cons_of_mem _ hd)) p1
    refine ⟨η2, w2, ?_, p2⟩
    rw [← e2]
    show Cw.bindM (tg d η w) (fun η1 w1 => Cw.bindM (g η1 w1) _) = _
    revert e
    generalize tg d η w = r0
    intro e
    match r0, e with
    | .ok (a, w1'), e =>
      show Cw.bindM (g a w1') _ = _
      rw [show g a w1' = .ok (.nx η1, w1) from e]; rfl
    | .exc c, e => cases e
    | .stk, e => cases e

def lawT : FT Unit := (tOrF (tst (e2 neD (eFn (fun ds => noX (v_lit ds)) (aCons (eC (.int 4)) (aCons (eTup (aCons (eTup (aCons (eC (.int 3)) (aCons (eC (.int 2)) aNil))) aNil)) aNil))) (eTup (aCons (eC (.int 0)) (aCons (eC (.int 3)) aNil))))) (tOrF (tst (e2 neD (eFn (fun ds => noX (m_evenly ds)) (aCons (eC (.int 4)) (aCons (eC (.int 2)) aNil))) (eTup (aCons (eC (.int 0)) (aCons (eC (.int 1)) (aCons (eC (.int 0)) (aCons (eC (.int 1)) aNil))))))) (tst (e2 neD (eFn (fun ds => noX (v_shine ds)) (aCons (eTup (aCons (eTup (aCons (eC (.int 0)) (aCons (eC (.int 1)) aNil))) (aCons (eTup (aCons (eC (.int 1)) (aCons (eC (.int 2)) aNil))) aNil))) (aCons (eTup (aCons (eC (.int 0)) (aCons (eC (.int 1)) aNil))) aNil))) (eTup (aCons (eC (.int 0)) (aCons (eC (.int 2)) aNil)))))))
def isF (r : Res (Bool × Unit)) : Bool := match r with
  | .ok (false, _) => true
  | _ => false
theorem isF_eq {r : Res (Bool × Unit)} (h : isF r = true) : r = .ok (false, ()) := by
  unfold isF at h; split at h
  · rfl
  · cases h
theorem lawT_ok : isF (lawT [.un, .hd, .un, .un, .un, .un, .un] ()) = true := by decide +kernel
theorem good_of (T : ∀ s m y : Nat, 3 ≤ s → s ≤ 9 → 2 ≤ m → m < 2 + min (s - 2) 6 → y < s → Lap s m y) (b : Bag) : ∃ b', g_law (Slot.un :: Slot.hd :: List.replicate 5 Slot.un) b = .ok (.rt (.bool true), b') := by
  have n0 : Nt (W := Bag) (tOrF (tst (e2 neD (eFn (fun ds => noX (v_lit ds)) (aCons (eC (.int 4)) (aCons (eTup (aCons (eTup (aCons (eC (.int 3)) (aCons (eC (.int 2)) aNil))) aNil)) aNil))) (eTup (aCons (eC (.int 0)) (aCons (eC (.int 3)) aNil))))) (tOrF (tst (e2 neD (eFn (fun ds => noX (m_evenly ds)) (aCons (eC (.int 4)) (aCons (eC (.int 2)) aNil))) (eTup (aCons (eC (.int 0)) (aCons (eC (.int 1)) (aCons (eC (.int 0)) (aCons (eC (.int 1)) aNil))))))) (tst (e2 neD (eFn (fun ds => noX (v_shine ds)) (aCons (eTup (aCons (eTup (aCons (eC (.int 0)) (aCons (eC (.int 1)) aNil))) (aCons (eTup (aCons (eC (.int 1)) (aCons (eC (.int 2)) aNil))) aNil))) (aCons (eTup (aCons (eC (.int 0)) (aCons (eC (.int 1)) aNil))) aNil))) (eTup (aCons (eC (.int 0)) (aCons (eC (.int 2)) aNil))))))) lawT := by unfold lawT; infer_instance
  obtain ⟨η', b', e, _⟩ := forL_st (tg := tgN 2) (g := lapB) LP (rgD 0 5) [.un, .hd, .un, .un, .un, .un, .un] b (fun d _ η w p => by
    obtain ⟨a2, a3, a4, a5, a6, rfl⟩ := p
    exact lap_run T (η := [.un, .hd, .fr d, a3, a4, a5, a6]) ⟨_, _, _, _, _, rfl⟩ w) ⟨_, _, _, _, _, rfl⟩
  rw [ve_law]
  exact ⟨b', sSeq_ok (sIf_false (n0.ok (isF_eq lawT_ok) b) rfl) (sSeq_ok (sFor_ok (ds := rgD 0 5) rfl e) rfl)⟩
end Lw

namespace Lw
open PySem PySem.Spec PyProof.Rows L2 Cw
theorem t_3_2 : (List.range 3).all (lapOk 3 2) = true := by decide +kernel
theorem t_4_2 : (List.range 4).all (lapOk 4 2) = true := by decide +kernel
theorem t_4_3 : (List.range 4).all (lapOk 4 3) = true := by decide +kernel
theorem t_5_2 : (List.range 5).all (lapOk 5 2) = true := by decide +kernel
theorem t_5_3 : (List.range 5).all (lapOk 5 3) = true := by decide +kernel
theorem t_5_4 : (List.range 5).all (lapOk 5 4) = true := by decide +kernel
theorem t_6_2 : (List.range 6).all (lapOk 6 2) = true := by decide +kernel
theorem t_6_3 : (List.range 6).all (lapOk 6 3) = true := by decide +kernel
theorem t_6_4 : (List.range 6).all (lapOk 6 4) = true := by decide +kernel
theorem t_6_5 : (List.range 6).all (lapOk 6 5) = true := by decide +kernel
theorem t_7_2 : (List.range 7).all (lapOk 7 2) = true := by decide +kernel
theorem t_7_3 : (List.range 7).all (lapOk 7 3) = true := by decide +kernel
theorem t_7_4 : (List.range 7).all (lapOk 7 4) = true := by decide +kernel
theorem t_7_5 : (List.range 7).all (lapOk 7 5) = true := by decide +kernel
theorem t_7_6_0 : lapOk 7 6 0 = true := by decide +kernel
theorem t_7_6_1 : lapOk 7 6 1 = true := by decide +kernel
theorem t_7_6_2 : lapOk 7 6 2 = true := by decide +kernel
theorem t_7_6_3 : lapOk 7 6 3 = true := by decide +kernel
theorem t_7_6_4 : lapOk 7 6 4 = true := by decide +kernel
theorem t_7_6_5 : lapOk 7 6 5 = true := by decide +kernel
theorem t_7_6_6 : lapOk 7 6 6 = true := by decide +kernel
theorem t_7_6 : (List.range 7).all (lapOk 7 6) = true := by
  have e : List.range 7 = [0, 1, 2, 3, 4, 5, 6] := rfl
  rw [e]
  simp only [List.all_cons, List.all_nil, t_7_6_0, t_7_6_1, t_7_6_2, t_7_6_3, t_7_6_4, t_7_6_5, t_7_6_6, Bool.and_self]
theorem t_8_2 : (List.range 8).all (lapOk 8 2) = true := by decide +kernel
theorem t_8_3 : (List.range 8).all (lapOk 8 3) = true := by decide +kernel
theorem t_8_4 : (List.range 8).all (lapOk 8 4) = true := by decide +kernel
theorem t_8_5_0 : lapOk 8 5 0 = true := by decide +kernel
theorem t_8_5_1 : lapOk 8 5 1 = true := by decide +kernel
theorem t_8_5_2 : lapOk 8 5 2 = true := by decide +kernel
theorem t_8_5_3 : lapOk 8 5 3 = true := by decide +kernel
theorem t_8_5_4 : lapOk 8 5 4 = true := by decide +kernel
theorem t_8_5_5 : lapOk 8 5 5 = true := by decide +kernel
theorem t_8_5_6 : lapOk 8 5 6 = true := by decide +kernel
theorem t_8_5_7 : lapOk 8 5 7 = true := by decide +kernel
theorem t_8_5 : (List.range 8).all (lapOk 8 5) = true := by
  have e : List.range 8 = [0, 1, 2, 3, 4, 5, 6, 7] := rfl
  rw [e]
  simp only [List.all_cons, List.all_nil, t_8_5_0, t_8_5_1, t_8_5_2, t_8_5_3, t_8_5_4, t_8_5_5, t_8_5_6, t_8_5_7, Bool.and_self]
theorem t_8_6_0 : lapOk 8 6 0 = true := by decide +kernel
theorem t_8_6_1 : lapOk 8 6 1 = true := by decide +kernel
theorem t_8_6_2 : lapOk 8 6 2 = true := by decide +kernel
theorem t_8_6_3 : lapOk 8 6 3 = true := by decide +kernel
theorem t_8_6_4 : lapOk 8 6 4 = true := by decide +kernel
theorem t_8_6_5 : lapOk 8 6 5 = true := by decide +kernel
theorem t_8_6_6 : lapOk 8 6 6 = true := by decide +kernel
theorem t_8_6_7 : lapOk 8 6 7 = true := by decide +kernel
theorem t_8_6 : (List.range 8).all (lapOk 8 6) = true := by
  have e : List.range 8 = [0, 1, 2, 3, 4, 5, 6, 7] := rfl
  rw [e]
  simp only [List.all_cons, List.all_nil, t_8_6_0, t_8_6_1, t_8_6_2, t_8_6_3, t_8_6_4, t_8_6_5, t_8_6_6, t_8_6_7, Bool.and_self]
theorem t_8_7_0 : lapOk 8 7 0 = true := by decide +kernel
theorem t_8_7_1 : lapOk 8 7 1 = true := by decide +kernel
theorem t_8_7_2 : lapOk 8 7 2 = true := by decide +kernel
theorem t_8_7_3 : lapOk 8 7 3 = true := by decide +kernel
theorem t_8_7_4 : lapOk 8 7 4 = true := by decide +kernel
theorem t_8_7_5 : lapOk 8 7 5 = true := by decide +kernel
theorem t_8_7_6 : lapOk 8 7 6 = true := by decide +kernel
theorem t_8_7_7 : lapOk 8 7 7 = true := by decide +kernel
theorem t_8_7 : (List.range 8).all (lapOk 8 7) = true := by
  have e : List.range 8 = [0, 1, 2, 3, 4, 5, 6, 7] := rfl
  rw [e]
  simp only [List.all_cons, List.all_nil, t_8_7_0, t_8_7_1, t_8_7_2, t_8_7_3, t_8_7_4, t_8_7_5, t_8_7_6, t_8_7_7, Bool.and_self]
theorem t_9_2 : (List.range 9).all (lapOk 9 2) = true := by decide +kernel
theorem t_9_3 : (List.range 9).all (lapOk 9 3) = true := by decide +kernel
theorem t_9_4_0 : lapOk 9 4 0 = true := by decide +kernel
theorem t_9_4_1 : lapOk 9 4 1 = true := by decide +kernel
theorem t_9_4_2 : lapOk 9 4 2 = true := by decide +kernel
theorem t_9_4_3 : lapOk 9 4 3 = true := by decide +kernel
theorem t_9_4_4 : lapOk 9 4 4 = true := by decide +kernel
theorem t_9_4_5 : lapOk 9 4 5 = true := by decide +kernel
theorem t_9_4_6 : lapOk 9 4 6 = true := by decide +kernel
theorem t_9_4_7 : lapOk 9 4 7 = true := by decide +kernel
theorem t_9_4_8 : lapOk 9 4 8 = true := by decide +kernel
theorem t_9_4 : (List.range 9).all (lapOk 9 4) = true := by
  have e : List.range 9 = [0, 1, 2, 3, 4, 5, 6, 7, 8] := rfl
  rw [e]
  simp only [List.all_cons, List.all_nil, t_9_4_0, t_9_4_1, t_9_4_2, t_9_4_3, t_9_4_4, t_9_4_5, t_9_4_6, t_9_4_7, t_9_4_8, Bool.and_self]
theorem t_9_5_0 : lapOk 9 5 0 = true := by decide +kernel
theorem t_9_5_1 : lapOk 9 5 1 = true := by decide +kernel
theorem t_9_5_2 : lapOk 9 5 2 = true := by decide +kernel
theorem t_9_5_3 : lapOk 9 5 3 = true := by decide +kernel
theorem t_9_5_4 : lapOk 9 5 4 = true := by decide +kernel
theorem t_9_5_5 : lapOk 9 5 5 = true := by decide +kernel
theorem t_9_5_6 : lapOk 9 5 6 = true := by decide +kernel
theorem t_9_5_7 : lapOk 9 5 7 = true := by decide +kernel
theorem t_9_5_8 : lapOk 9 5 8 = true := by decide +kernel
theorem t_9_5 : (List.range 9).all (lapOk 9 5) = true := by
  have e : List.range 9 = [0, 1, 2, 3, 4, 5, 6, 7, 8] := rfl
  rw [e]
  simp only [List.all_cons, List.all_nil, t_9_5_0, t_9_5_1, t_9_5_2, t_9_5_3, t_9_5_4, t_9_5_5, t_9_5_6, t_9_5_7, t_9_5_8, Bool.and_self]
theorem t_9_6_0 : lapOk 9 6 0 = true := by decide +kernel
theorem t_9_6_1 : lapOk 9 6 1 = true := by decide +kernel
theorem t_9_6_2 : lapOk 9 6 2 = true := by decide +kernel
theorem t_9_6_3 : lapOk 9 6 3 = true := by decide +kernel
theorem t_9_6_4 : lapOk 9 6 4 = true := by decide +kernel
theorem t_9_6_5 : lapOk 9 6 5 = true := by decide +kernel
theorem t_9_6_6 : lapOk 9 6 6 = true := by decide +kernel
theorem t_9_6_7 : lapOk 9 6 7 = true := by decide +kernel
theorem t_9_6_8 : lapOk 9 6 8 = true := by decide +kernel
theorem t_9_6 : (List.range 9).all (lapOk 9 6) = true := by
  have e : List.range 9 = [0, 1, 2, 3, 4, 5, 6, 7, 8] := rfl
  rw [e]
  simp only [List.all_cons, List.all_nil, t_9_6_0, t_9_6_1, t_9_6_2, t_9_6_3, t_9_6_4, t_9_6_5, t_9_6_6, t_9_6_7, t_9_6_8, Bool.and_self]
theorem t_9_7_0 : lapOk 9 7 0 = true := by decide +kernel
theorem t_9_7_1 : lapOk 9 7 1 = true := by decide +kernel
theorem t_9_7_2 : lapOk 9 7 2 = true := by decide +kernel
theorem t_9_7_3 : lapOk 9 7 3 = true := by decide +kernel
theorem t_9_7_4 : lapOk 9 7 4 = true := by decide +kernel
theorem t_9_7_5 : lapOk 9 7 5 = true := by decide +kernel
theorem t_9_7_6 : lapOk 9 7 6 = true := by decide +kernel
theorem t_9_7_7 : lapOk 9 7 7 = true := by decide +kernel
theorem t_9_7_8 : lapOk 9 7 8 = true := by decide +kernel
theorem t_9_7 : (List.range 9).all (lapOk 9 7) = true := by
  have e : List.range 9 = [0, 1, 2, 3, 4, 5, 6, 7, 8] := rfl
  rw [e]
  simp only [List.all_cons, List.all_nil, t_9_7_0, t_9_7_1, t_9_7_2, t_9_7_3, t_9_7_4, t_9_7_5, t_9_7_6, t_9_7_7, t_9_7_8, Bool.and_self]
theorem tab (s m y : Nat) (h1 : 3 ≤ s) (h2 : s ≤ 9) (h3 : 2 ≤ m) (h4 : m < 2 + min (s - 2) 6) (h5 : y < s) : Lap s m y := by
  have hs : s = 3 ∨ s = 4 ∨ s = 5 ∨ s = 6 ∨ s = 7 ∨ s = 8 ∨ s = 9 := by omega
  rcases hs with rfl | rfl | rfl | rfl | rfl | rfl | rfl
  · obtain rfl : m = 2 := by omega
    exact lap_of (List.all_eq_true.mp t_3_2 y (List.mem_range.mpr h5))
  · have hm : m = 2 ∨ m = 3 := by omega
    rcases hm with rfl | rfl
    · exact lap_of (List.all_eq_true.mp t_4_2 y (List.mem_range.mpr h5))
    · exact lap_of (List.all_eq_true.mp t_4_3 y (List.mem_range.mpr h5))
  · have hm : m = 2 ∨ m = 3 ∨ m = 4 := by omega
    rcases hm with rfl | rfl | rfl
    · exact lap_of (List.all_eq_true.mp t_5_2 y (List.mem_range.mpr h5))
    · exact lap_of (List.all_eq_true.mp t_5_3 y (List.mem_range.mpr h5))
    · exact lap_of (List.all_eq_true.mp t_5_4 y (List.mem_range.mpr h5))
  · have hm : m = 2 ∨ m = 3 ∨ m = 4 ∨ m = 5 := by omega
    rcases hm with rfl | rfl | rfl | rfl
    · exact lap_of (List.all_eq_true.mp t_6_2 y (List.mem_range.mpr h5))
    · exact lap_of (List.all_eq_true.mp t_6_3 y (List.mem_range.mpr h5))
    · exact lap_of (List.all_eq_true.mp t_6_4 y (List.mem_range.mpr h5))
    · exact lap_of (List.all_eq_true.mp t_6_5 y (List.mem_range.mpr h5))
  · have hm : m = 2 ∨ m = 3 ∨ m = 4 ∨ m = 5 ∨ m = 6 := by omega
    rcases hm with rfl | rfl | rfl | rfl | rfl
    · exact lap_of (List.all_eq_true.mp t_7_2 y (List.mem_range.mpr h5))
    · exact lap_of (List.all_eq_true.mp t_7_3 y (List.mem_range.mpr h5))
    · exact lap_of (List.all_eq_true.mp t_7_4 y (List.mem_range.mpr h5))
    · exact lap_of (List.all_eq_true.mp t_7_5 y (List.mem_range.mpr h5))
    · exact lap_of (List.all_eq_true.mp t_7_6 y (List.mem_range.mpr h5))
  · have hm : m = 2 ∨ m = 3 ∨ m = 4 ∨ m = 5 ∨ m = 6 ∨ m = 7 := by omega
    rcases hm with rfl | rfl | rfl | rfl | rfl | rfl
    · exact lap_of (List.all_eq_true.mp t_8_2 y (List.mem_range.mpr h5))
    · exact lap_of (List.all_eq_true.mp t_8_3 y (List.mem_range.mpr h5))
    · exact lap_of (List.all_eq_true.mp t_8_4 y (List.mem_range.mpr h5))
    · exact lap_of (List.all_eq_true.mp t_8_5 y (List.mem_range.mpr h5))
    · exact lap_of (List.all_eq_true.mp t_8_6 y (List.mem_range.mpr h5))
    · exact lap_of (List.all_eq_true.mp t_8_7 y (List.mem_range.mpr h5))
  · have hm : m = 2 ∨ m = 3 ∨ m = 4 ∨ m = 5 ∨ m = 6 ∨ m = 7 := by omega
    rcases hm with rfl | rfl | rfl | rfl | rfl | rfl
    · exact lap_of (List.all_eq_true.mp t_9_2 y (List.mem_range.mpr h5))
    · exact lap_of (List.all_eq_true.mp t_9_3 y (List.mem_range.mpr h5))
    · exact lap_of (List.all_eq_true.mp t_9_4 y (List.mem_range.mpr h5))
    · exact lap_of (List.all_eq_true.mp t_9_5 y (List.mem_range.mpr h5))
    · exact lap_of (List.all_eq_true.mp t_9_6 y (List.mem_range.mpr h5))
    · exact lap_of (List.all_eq_true.mp t_9_7 y (List.mem_range.mpr h5))
theorem good (b : Bag) : ∃ b', g_law (Slot.un :: Slot.hd :: List.replicate 5 Slot.un) b = .ok (.rt (.bool true), b') := good_of tab b
end Lw

namespace Lw
open PySem PySem.Spec PyProof.Rows L2 Cw
section
theorem all_ok {l : PySem.W.OpenLaw} {w : World} {K : PySem.W.Frag} {h : Heap} {mg : Str → Option Value} {fa : Addr} (X : K.In h) (G : h.Ns mainGlobals mg) (hfa : mg "law" = some (.ref fa)) (B : Bt mg) (A_is_integer : FunAt K "is_integer" s_is_integer) (A_is_within : FunAt K "is_within" s_is_within) (A_is_tuple_of : FunAt K "is_tuple_of" s_is_tuple_of) (A_are_within : FunAt K "are_within" s_are_within) (A_is_lot : FunAt K "is_lot" s_is_lot) (A_lots_of : FunAt K "lots_of" s_lots_of) (A_all_lots : FunAt K "all_lots" s_all_lots) (A_check_size : FunAt K "check_size" s_check_size) (A_is_lamp : FunAt K "is_lamp" s_is_lamp) (A_check_lamps : FunAt K "check_lamps" s_check_lamps) (A_places_of : FunAt K "places_of" s_places_of) (A_counts_of : FunAt K "counts_of" s_counts_of) (A_lit : FunAt K "lit" s_lit) (A_raw_dark : FunAt K "raw_dark" s_raw_dark) (A_dark : FunAt K "dark" s_dark) (A_do_light : FunAt K "do_light" s_do_light) (A_fewest_lamps : FunAt K "fewest_lamps" s_fewest_lamps) (A_is_lighting : FunAt K "is_lighting" s_is_lighting) (A_stretch_from : FunAt K "stretch_from" s_stretch_from) (A_dark_stretch : FunAt K "dark_stretch" s_dark_stretch) (A_is_needless : FunAt K "is_needless" s_is_needless) (A_needless : FunAt K "needless" s_needless) (A_brightest : FunAt K "brightest" s_brightest) (A_turned_lamps : FunAt K "turned_lamps" s_turned_lamps) (A_check_horses : FunAt K "check_horses" s_check_horses) (A_begins_of : FunAt K "begins_of" s_begins_of) (A_ways_round : FunAt K "ways_round" s_ways_round) (A_runs : FunAt K "runs" s_runs) (A_apart : FunAt K "apart" s_apart) (A_evenly : FunAt K "evenly" s_evenly) (A_check_switches : FunAt K "check_switches" s_check_switches) (A_check_wanted : FunAt K "check_wanted" s_check_wanted) (A_raw_shine : FunAt K "raw_shine" s_raw_shine) (A_all_shines : FunAt K "all_shines" s_all_shines) (A_shared_many : FunAt K "shared_many" s_shared_many) (A_does_bar : FunAt K "does_bar" s_does_bar) (A_least_bar : FunAt K "least_bar" s_least_bar) (A_switch_told : FunAt K "switch_told" s_switch_told) (A_shine : FunAt K "shine" s_shine) (A_looks_many : FunAt K "looks_many" s_looks_many) (A_idle_press : FunAt K "idle_press" s_idle_press) (A_most_lights : FunAt K "most_lights" s_most_lights) (A__law_bag : FunAt K "_law_bag" s__law_bag) (A__law_pick : FunAt K "_law_pick" s__law_pick) (A__law_some : FunAt K "_law_some" s__law_some) (A__law_lamps : FunAt K "_law_lamps" s__law_lamps) (A__law_is_lit_right : FunAt K "_law_is_lit_right" s__law_is_lit_right) (A__law_is_dark_right : FunAt K "_law_is_dark_right" s__law_is_dark_right) (A__law_is_pressed_right : FunAt K "_law_is_pressed_right" s__law_is_pressed_right) (A__law_lots : FunAt K "_law_lots" s__law_lots) (A_law : FunAt K "law" s_law)
    (good : ∀ b : Bag, ∃ b', g_law (Slot.un :: Slot.hd :: List.replicate 5 Slot.un) b = .ok (.rt (.bool true), b')) :
    ∃ fd : FuncData, (∀ (s : Shared) (u : Value), BindsTo s fd ⟨[u], []⟩ [("script", u)]) ∧ ∀ base : Heap, K.In base → base.Ns mainGlobals mg → FnOk l.prog w K mg base CX0 9 fa fd ["script"] (spLaw K) := by
  obtain ⟨f, fd, a, F⟩ := A_law
  cases hfa.symm.trans (PySem.W.mg_of X G a)
  refine ⟨fd, fun s u => ?_, fun base _ _ => ?_⟩
  · obtain ⟨oc, od, kV, doc, pm, an, cdv, ct, osl, rfl, _, _⟩ := F.ex
    exact .of_eq rfl
  have C_is_integer := cal_is_integer (P := l.prog) (w := w) (base := base) X G A_is_integer B 
  have C_is_tuple_of := cal_is_tuple_of (P := l.prog) (w := w) (base := base) X G A_is_tuple_of B 
  have C_lots_of := cal_lots_of (P := l.prog) (w := w) (base := base) X G A_lots_of B 
  have C_places_of := cal_places_of (P := l.prog) (w := w) (base := base) X G A_places_of B 
  have C_stretch_from := cal_stretch_from (P := l.prog) (w := w) (base := base) X G A_stretch_from B 
  have C_begins_of := cal_begins_of (P := l.prog) (w := w) (base := base) X G A_begins_of B 
  have C_ways_round := cal_ways_round (P := l.prog) (w := w) (base := base) X G A_ways_round B 
  have C_evenly := cal_evenly (P := l.prog) (w := w) (base := base) X G A_evenly B 
  have C_raw_shine := cal_raw_shine (P := l.prog) (w := w) (base := base) X G A_raw_shine B 
  have C_shared_many := cal_shared_many (P := l.prog) (w := w) (base := base) X G A_shared_many B 
  have C__law_pick := cal__law_pick (P := l.prog) (w := w) (base := base) X G A__law_pick B 
  have C__law_lamps := cal__law_lamps (P := l.prog) (w := w) (base := base) X G A__law_lamps B 
  have C__law_lots := cal__law_lots (P := l.prog) (w := w) (base := base) X G A__law_lots B 
  have C_is_within := cal_is_within (P := l.prog) (w := w) (base := base) X G A_is_within B C_is_integer
  have C_all_lots := cal_all_lots (P := l.prog) (w := w) (base := base) X G A_all_lots B C_lots_of
  have C_counts_of := cal_counts_of (P := l.prog) (w := w) (base := base) X G A_counts_of B C_places_of
  have C_does_bar := cal_does_bar (P := l.prog) (w := w) (base := base) X G A_does_bar B C_shared_many
  have C__law_some := cal__law_some (P := l.prog) (w := w) (base := base) X G A__law_some B C__law_pick
  have C_are_within := cal_are_within (P := l.prog) (w := w) (base := base) X G A_are_within B C_is_within
  have C_check_size := cal_check_size (P := l.prog) (w := w) (base := base) X G A_check_size B C_is_within
  have C_is_lamp := cal_is_lamp (P := l.prog) (w := w) (base := base) X G A_is_lamp B C_is_tuple_of C_is_within
  have C_raw_dark := cal_raw_dark (P := l.prog) (w := w) (base := base) X G A_raw_dark B C_counts_of
  have C_all_shines := cal_all_shines (P := l.prog) (w := w) (base := base) X G A_all_shines B C_all_lots C_raw_shine
  have C_least_bar := cal_least_bar (P := l.prog) (w := w) (base := base) X G A_least_bar B C_all_lots C_does_bar
  have C_is_lot := cal_is_lot (P := l.prog) (w := w) (base := base) X G A_is_lot B C_are_within
  have C_check_lamps := cal_check_lamps (P := l.prog) (w := w) (base := base) X G A_check_lamps B C_check_size C_is_lamp
  have C_do_light := cal_do_light (P := l.prog) (w := w) (base := base) X G A_do_light B C_raw_dark
  have C_is_needless := cal_is_needless (P := l.prog) (w := w) (base := base) X G A_is_needless B C_raw_dark
  have C_check_horses := cal_check_horses (P := l.prog) (w := w) (base := base) X G A_check_horses B C_are_within
  have C_lit := cal_lit (P := l.prog) (w := w) (base := base) X G A_lit B C_check_lamps C_counts_of
  have C_dark := cal_dark (P := l.prog) (w := w) (base := base) X G A_dark B C_check_lamps C_raw_dark
  have C_fewest_lamps := cal_fewest_lamps (P := l.prog) (w := w) (base := base) X G A_fewest_lamps B C_all_lots C_check_lamps C_do_light C_raw_dark
  have C_is_lighting := cal_is_lighting (P := l.prog) (w := w) (base := base) X G A_is_lighting B C_check_lamps C_do_light C_is_lot
  have C_dark_stretch := cal_dark_stretch (P := l.prog) (w := w) (base := base) X G A_dark_stretch B C_check_lamps C_raw_dark C_stretch_from
  have C_needless := cal_needless (P := l.prog) (w := w) (base := base) X G A_needless B C_check_lamps C_is_needless
  have C_brightest := cal_brightest (P := l.prog) (w := w) (base := base) X G A_brightest B C_check_lamps C_counts_of
  have C_turned_lamps := cal_turned_lamps (P := l.prog) (w := w) (base := base) X G A_turned_lamps B C_check_lamps C_is_within
  have C_runs := cal_runs (P := l.prog) (w := w) (base := base) X G A_runs B C_begins_of C_check_horses C_ways_round
  have C_apart := cal_apart (P := l.prog) (w := w) (base := base) X G A_apart B C_check_horses C_ways_round
  have C_check_switches := cal_check_switches (P := l.prog) (w := w) (base := base) X G A_check_switches B C_is_lot
  have C_check_wanted := cal_check_wanted (P := l.prog) (w := w) (base := base) X G A_check_wanted B C_check_switches C_is_lot
  have C_shine := cal_shine (P := l.prog) (w := w) (base := base) X G A_shine B C_check_switches C_is_lot C_raw_shine
  have C_looks_many := cal_looks_many (P := l.prog) (w := w) (base := base) X G A_looks_many B C_all_shines C_check_switches
  have C_idle_press := cal_idle_press (P := l.prog) (w := w) (base := base) X G A_idle_press B C_all_lots C_check_switches C_raw_shine
  have C_most_lights := cal_most_lights (P := l.prog) (w := w) (base := base) X G A_most_lights B C_all_shines C_check_switches
  have C__law_is_lit_right := cal__law_is_lit_right (P := l.prog) (w := w) (base := base) X G A__law_is_lit_right B C_apart C_brightest C_dark C_fewest_lamps C_is_lighting C_lit C_needless C_runs C_turned_lamps
  have C__law_is_dark_right := cal__law_is_dark_right (P := l.prog) (w := w) (base := base) X G A__law_is_dark_right B C__law_pick C_dark_stretch C_is_lighting C_lit
  have C_switch_told := cal_switch_told (P := l.prog) (w := w) (base := base) X G A_switch_told B C_all_shines C_check_wanted C_least_bar
  have C__law_is_pressed_right := cal__law_is_pressed_right (P := l.prog) (w := w) (base := base) X G A__law_is_pressed_right B C__law_lots C__law_some C_idle_press C_lit C_looks_many C_most_lights C_shine C_switch_told
  obtain ⟨fB, fdB, aB, FB⟩ := A__law_bag
  exact ok_law F B C__law_is_dark_right C__law_is_lit_right C__law_is_pressed_right C__law_lamps C__law_pick C_evenly C_lit C_shine (ok__law_bag FB B) (PySem.W.mg_of X G aB) FB.kp (FB.binds fun _ _ _ _ _ _ us hl => match us, hl with | [_], _ => rfl) good
end
end Lw
open PySem PySem.W PyProof.Rows
set_option maxHeartbeats 0 in
theorem PySem.Challenge.cw_circusweek_k85_whole_lamps_laid_evenly_a_holds : PySem.Challenge.rw_circusweek_k85_whole_lamps_laid_evenly_a.Holds := by
  w_on; o_law; k_head; (case hw => w_witness2)
  k_fill
  refine L2.walk_of (l := PySem.Challenge.rw_circusweek_k85_whole_lamps_laid_evenly_a) (n := 63) (k := 9) (x := "script") (CX := fun _ => L2.CX0) (sp := fun w => Lw.spLaw _) rfl (by decide) rfl ⟨rfl, by decide, by decide⟩ (fun w h Y => PySem.W.kIn_of Y) ?F (fun _ _ a ns hl _ hS => ⟨a, ns, rfl, hS, hl, fun _ => rfl⟩) (fun _ _ _ _ _ h => h)
  case F =>
    intro w mg fa h KX G hmg
    refine' Lw.all_ok KX G hmg ?B ?A_is_integer ?A_is_within ?A_is_tuple_of ?A_are_within ?A_is_lot ?A_lots_of ?A_all_lots ?A_check_size ?A_is_lamp ?A_check_lamps ?A_places_of ?A_counts_of ?A_lit ?A_raw_dark ?A_dark ?A_do_light ?A_fewest_lamps ?A_is_lighting ?A_stretch_from ?A_dark_stretch ?A_is_needless ?A_needless ?A_brightest ?A_turned_lamps ?A_check_horses ?A_begins_of ?A_ways_round ?A_runs ?A_apart ?A_evenly ?A_check_switches ?A_check_wanted ?A_raw_shine ?A_all_shines ?A_shared_many ?A_does_bar ?A_least_bar ?A_switch_told ?A_shine ?A_looks_many ?A_idle_press ?A_most_lights ?A__law_bag ?A__law_pick ?A__law_some ?A__law_lamps ?A__law_is_lit_right ?A__law_is_dark_right ?A__law_is_pressed_right ?A__law_lots ?A_law Lw.good
    case B => exact ⟨PySem.W.mg_none_of (n := "abs") KX G (by k_is), PySem.W.mg_none_of (n := "all") KX G (by k_is), PySem.W.mg_none_of (n := "bool") KX G (by k_is), PySem.W.mg_none_of (n := "enumerate") KX G (by k_is), PySem.W.mg_none_of (n := "int") KX G (by k_is), PySem.W.mg_none_of (n := "isinstance") KX G (by k_is), PySem.W.mg_none_of (n := "len") KX G (by k_is), PySem.W.mg_none_of (n := "max") KX G (by k_is), PySem.W.mg_none_of (n := "min") KX G (by k_is), PySem.W.mg_none_of (n := "range") KX G (by k_is), PySem.W.mg_none_of (n := "sorted") KX G (by k_is), PySem.W.mg_none_of (n := "sum") KX G (by k_is), PySem.W.mg_none_of (n := "tuple") KX G (by k_is), PySem.W.mg_none_of (n := "zip") KX G (by k_is), ⟨_, PySem.W.mg_of (n := "LIGHTS") KX G (by k_is)⟩, ⟨_, PySem.W.mg_of (n := "MOST_COLOUR") KX G (by k_is)⟩, ⟨_, PySem.W.mg_of (n := "MOST_HORSES") KX G (by k_is)⟩, ⟨_, PySem.W.mg_of (n := "MOST_LAMPS") KX G (by k_is)⟩, ⟨_, PySem.W.mg_of (n := "MOST_SIZE") KX G (by k_is)⟩, ⟨_, PySem.W.mg_of (n := "MOST_SWITCHES") KX G (by k_is)⟩, ⟨_, PySem.W.mg_of (n := "ODD") KX G (by k_is)⟩, ⟨_, PySem.W.mg_of (n := "PRESS") KX G (by k_is)⟩⟩
    case A_is_integer =>
      refine' Cw.funAt_mk ?a ?l ?c ?k
      (case a => k_is); (case l => k_is); (case c => k_is); (case k => k_is)
    case A_is_within =>
      refine' Cw.funAt_mk ?a ?l ?c ?k
      (case a => k_is); (case l => k_is); (case c => k_is); (case k => k_is)
    case A_is_tuple_of =>
      refine' Cw.funAt_mk ?a ?l ?c ?k
      (case a => k_is); (case l => k_is); (case c => k_is); (case k => k_is)
    case A_are_within =>
      refine' Cw.funAt_mk ?a ?l ?c ?k
      (case a => k_is); (case l => k_is); (case c => k_is); (case k => k_is)
    case A_is_lot =>
      refine' Cw.funAt_mk ?a ?l ?c ?k
      (case a => k_is); (case l => k_is); (case c => k_is); (case k => k_is)
    case A_lots_of =>
      refine' Cw.funAt_mk ?a ?l ?c ?k
      (case a => k_is); (case l => k_is); (case c => k_is); (case k => k_is)
    case A_all_lots =>
      refine' Cw.funAt_mk ?a ?l ?c ?k
      (case a => k_is); (case l => k_is); (case c => k_is); (case k => k_is)
    case A_check_size =>
      refine' Cw.funAt_mk ?a ?l ?c ?k
      (case a => k_is); (case l => k_is); (case c => k_is); (case k => k_is)
    case A_is_lamp =>
      refine' Cw.funAt_mk ?a ?l ?c ?k
      (case a => k_is); (case l => k_is); (case c => k_is); (case k => k_is)
    case A_check_lamps =>
      refine' Cw.funAt_mk ?a ?l ?c ?k
      (case a => k_is); (case l => k_is); (case c => k_is); (case k => k_is)
    case A_places_of =>
      refine' Cw.funAt_mk ?a ?l ?c ?k
      (case a => k_is); (case l => k_is); (case c => k_is); (case k => k_is)
    case A_counts_of =>
      refine' Cw.funAt_mk ?a ?l ?c ?k
      (case a => k_is); (case l => k_is); (case c => k_is); (case k => k_is)
    case A_lit =>
      refine' Cw.funAt_mk ?a ?l ?c ?k
      (case a => k_is); (case l => k_is); (case c => k_is); (case k => k_is)
    case A_raw_dark =>
      refine' Cw.funAt_mk ?a ?l ?c ?k
      (case a => k_is); (case l => k_is); (case c => k_is); (case k => k_is)
    case A_dark =>
      refine' Cw.funAt_mk ?a ?l ?c ?k
      (case a => k_is); (case l => k_is); (case c => k_is); (case k => k_is)
    case A_do_light =>
      refine' Cw.funAt_mk ?a ?l ?c ?k
      (case a => k_is); (case l => k_is); (case c => k_is); (case k => k_is)
    case A_fewest_lamps =>
      refine' Cw.funAt_mk ?a ?l ?c ?k
      (case a => k_is); (case l => k_is); (case c => k_is); (case k => k_is)
    case A_is_lighting =>
      refine' Cw.funAt_mk ?a ?l ?c ?k
      (case a => k_is); (case l => k_is); (case c => k_is); (case k => k_is)
    case A_stretch_from =>
      refine' Cw.funAt_mk ?a ?l ?c ?k
      (case a => k_is); (case l => k_is); (case c => k_is); (case k => k_is)
    case A_dark_stretch =>
      refine' Cw.funAt_mk ?a ?l ?c ?k
      (case a => k_is); (case l => k_is); (case c => k_is); (case k => k_is)
    case A_is_needless =>
      refine' Cw.funAt_mk ?a ?l ?c ?k
      (case a => k_is); (case l => k_is); (case c => k_is); (case k => k_is)
    case A_needless =>
      refine' Cw.funAt_mk ?a ?l ?c ?k
      (case a => k_is); (case l => k_is); (case c => k_is); (case k => k_is)
    case A_brightest =>
      refine' Cw.funAt_mk ?a ?l ?c ?k
      (case a => k_is); (case l => k_is); (case c => k_is); (case k => k_is)
    case A_turned_lamps =>
      refine' Cw.funAt_mk ?a ?l ?c ?k
      (case a => k_is); (case l => k_is); (case c => k_is); (case k => k_is)
    case A_check_horses =>
      refine' Cw.funAt_mk ?a ?l ?c ?k
      (case a => k_is); (case l => k_is); (case c => k_is); (case k => k_is)
    case A_begins_of =>
      refine' Cw.funAt_mk ?a ?l ?c ?k
      (case a => k_is); (case l => k_is); (case c => k_is); (case k => k_is)
    case A_ways_round =>
      refine' Cw.funAt_mk ?a ?l ?c ?k
      (case a => k_is); (case l => k_is); (case c => k_is); (case k => k_is)
    case A_runs =>
      refine' Cw.funAt_mk ?a ?l ?c ?k
      (case a => k_is); (case l => k_is); (case c => k_is); (case k => k_is)
    case A_apart =>
      refine' Cw.funAt_mk ?a ?l ?c ?k
      (case a => k_is); (case l => k_is); (case c => k_is); (case k => k_is)
    case A_evenly =>
      refine' Cw.funAt_mk ?a ?l ?c ?k
      (case a => k_is); (case l => k_is); (case c => k_is); (case k => k_is)
    case A_check_switches =>
      refine' Cw.funAt_mk ?a ?l ?c ?k
      (case a => k_is); (case l => k_is); (case c => k_is); (case k => k_is)
    case A_check_wanted =>
      refine' Cw.funAt_mk ?a ?l ?c ?k
      (case a => k_is); (case l => k_is); (case c => k_is); (case k => k_is)
    case A_raw_shine =>
      refine' Cw.funAt_mk ?a ?l ?c ?k
      (case a => k_is); (case l => k_is); (case c => k_is); (case k => k_is)
    case A_all_shines =>
      refine' Cw.funAt_mk ?a ?l ?c ?k
      (case a => k_is); (case l => k_is); (case c => k_is); (case k => k_is)
    case A_shared_many =>
      refine' Cw.funAt_mk ?a ?l ?c ?k
      (case a => k_is); (case l => k_is); (case c => k_is); (case k => k_is)
    case A_does_bar =>
      refine' Cw.funAt_mk ?a ?l ?c ?k
      (case a => k_is); (case l => k_is); (case c => k_is); (case k => k_is)
    case A_least_bar =>
      refine' Cw.funAt_mk ?a ?l ?c ?k
      (case a => k_is); (case l => k_is); (case c => k_is); (case k => k_is)
    case A_switch_told =>
      refine' Cw.funAt_mk ?a ?l ?c ?k
      (case a => k_is); (case l => k_is); (case c => k_is); (case k => k_is)
    case A_shine =>
      refine' Cw.funAt_mk ?a ?l ?c ?k
      (case a => k_is); (case l => k_is); (case c => k_is); (case k => k_is)
    case A_looks_many =>
      refine' Cw.funAt_mk ?a ?l ?c ?k
      (case a => k_is); (case l => k_is); (case c => k_is); (case k => k_is)
    case A_idle_press =>
      refine' Cw.funAt_mk ?a ?l ?c ?k
      (case a => k_is); (case l => k_is); (case c => k_is); (case k => k_is)
    case A_most_lights =>
      refine' Cw.funAt_mk ?a ?l ?c ?k
      (case a => k_is); (case l => k_is); (case c => k_is); (case k => k_is)
    case A__law_bag =>
      refine' Cw.funAt_mk ?a ?l ?c ?k
      (case a => k_is); (case l => k_is); (case c => k_is); (case k => k_is)
    case A__law_pick =>
      refine' Cw.funAt_mk ?a ?l ?c ?k
      (case a => k_is); (case l => k_is); (case c => k_is); (case k => k_is)
    case A__law_some =>
      refine' Cw.funAt_mk ?a ?l ?c ?k
      (case a => k_is); (case l => k_is); (case c => k_is); (case k => k_is)
    case A__law_lamps =>
      refine' Cw.funAt_mk ?a ?l ?c ?k
      (case a => k_is); (case l => k_is); (case c => k_is); (case k => k_is)
    case A__law_is_lit_right =>
      refine' Cw.funAt_mk ?a ?l ?c ?k
      (case a => k_is); (case l => k_is); (case c => k_is); (case k => k_is)
    case A__law_is_dark_right =>
      refine' Cw.funAt_mk ?a ?l ?c ?k
      (case a => k_is); (case l => k_is); (case c => k_is); (case k => k_is)
    case A__law_is_pressed_right =>
      refine' Cw.funAt_mk ?a ?l ?c ?k
      (case a => k_is); (case l => k_is); (case c => k_is); (case k => k_is)
    case A__law_lots =>
      refine' Cw.funAt_mk ?a ?l ?c ?k
      (case a => k_is); (case l => k_is); (case c => k_is); (case k => k_is)
    case A_law =>
      refine' Cw.funAt_mk ?a ?l ?c ?k
      (case a => k_is); (case l => k_is); (case c => k_is); (case k => k_is)

