import PyProof.Rows.All
import Wide.All
import OpenK.AllK
import Wide.FinOn
import HandS.ForMost
import HandS.Exc
import HandS.ExcInit
import HandS.ExcIs
import HandS.ExcField
import HandS.TryOnly
import HandS.Lambda
import HandS.IsInst
import HandS.Deep
import HandS.Evl
import KE.SortData
import KE.DataMinMax
import HandS.TupAny
import HandS.TupMul
import HandS.Wide
import HandS.Style
import HandS.Gcd
import HandS.Iter
import HandS.SetFor
import HandS.SortInts
import HandS.Strs
import HandS.Flow
import HandS.More
import HandS.Conv
import HandS.ForSpec
import HandS.TupLe
import HandS.HotCalls
import KE.KExcIs
import HandS.CallLocal
import HandS.EndTab
import KE.KNestM
import HandS.Codes
import KE.GoesMore
import PyProof.InstNe
import PyProof.InstEq
import PySem.Challenge.RW_ledagain_k06_whole_rules_told_well
set_option Elab.async false
set_option linter.all false
set_option maxRecDepth 100000
set_option maxHeartbeats 4000000
namespace DL
open PySem L2 Evl

/-! ### data -/
inductive D where
  | non | bl (b : Bool) | int (i : Int) | str (s : Str)
  | tup (xs : List D) | lst (xs : List D)
  | dct (kvs : List (D × D))
  | ty (n : String) | top (n : Str)
  | ins (C : Str) (fs : List (Str × D))
  | exc (fs : List (Str × D))
  | scr (ns : List Int)

/-- what is fixed through a law: the written part, the module's names, the tables of code objects -/
structure Am where
  K : PySem.W.Frag
  mg : Str → Option Value
  T : List (Addr × Str)
  pin : Option (Addr × Addr)
def Am.ad (A : Am) (n : Str) : Addr := match A.mg n with
  | some (.ref a) => a
  | _ => 0

/-- more is known; a dict may be locked meanwhile -/
def Lk (o : HO) : Prop := (∃ kvs, o = .dK kvs) ∨ ∃ kvs, o = .dT kvs
def Le (F F' : Hp) : Prop := ∀ a o, F a = some o → F' a = some o ∨ (Lk o ∧ ∃ ob, F' a = some (.frz ob o))
theorem le_ex {F F' : Hp} (h : Ex F F') : Le F F' := fun a o e => .inl (h a o e)
theorem Le.refl (F : Hp) : Le F F := fun _ _ h => .inl h
theorem Le.trans {F F' F'' : Hp} (a : Le F F') (b : Le F' F'') : Le F F'' := fun x o h => by
  rcases a x o h with e | ⟨l, ob, e⟩
  · exact b x o e
  · rcases b x _ e with e' | ⟨l', _, _⟩
    · exact .inr ⟨l, ob, e'⟩
    · rcases l' with ⟨_, z⟩ | ⟨_, z⟩ <;> cases z
theorem Le.new {F : Hp} {a : Addr} {o : HO} (h : F a = none) : Le F (upd F a o) := le_ex (Ex.new h)
theorem Le.keep {F F' : Hp} (e : Le F F') {a : Addr} {o : HO} (h : F a = some o) (n : ¬ Lk o) : F' a = some o := by
  rcases e a o h with q | ⟨l, _⟩
  · exact q
  · exact (n l).elim
theorem Le.rd {F F' : Hp} (e : Le F F') {a : Addr} {o : HO} (h : Rd F a o) : Rd F' a o := by
  rcases h with h | ⟨ob, h⟩
  · rcases e a o h with q | ⟨_, ob, q⟩
    · exact .inl q
    · exact .inr ⟨ob, q⟩
  · rcases e a _ h with q | ⟨l', _, _⟩
    · exact .inr ⟨ob, q⟩
    · rcases l' with ⟨_, z⟩ | ⟨_, z⟩ <;> cases z
theorem Le.l {K : PySem.W.Frag} {F F' : Hp} (e : Le F F') {a : Addr} {xs : List V} (h : SqL K F a xs) : SqL K F' a xs := by
  rcases h with h | h
  · exact .inl (e.rd h)
  · exact .inr h
theorem Le.t {K : PySem.W.Frag} {F F' : Hp} (e : Le F F') {a : Addr} {xs : List V} (h : SqT K F a xs) : SqT K F' a xs := by
  rcases h with h | h
  · exact .inl (e.rd h)
  · exact .inr h
def kD : Key → D
  | .inl i => .int i
  | .inr s => .str s

mutual
inductive Rep (A : Am) (F : Hp) : D → V → Prop
  | non : Rep A F .non .non
  | bl (b : Bool) : Rep A F (.bl b) (.bl b)
  | int (i : Int) : Rep A F (.int i) (.int i)
  | str (s : Str) : Rep A F (.str s) (.str s)
  | ty (n : String) : Rep A F (.ty n) (.ty n)
  | top (n : Str) : Rep A F (.top n) (.ref (A.ad n))
  | tup {a : Addr} {xs : List V} {ds : List D} : SqT A.K F a xs → Reps A F ds xs → Rep A F (.tup ds) (.ref a)
  | lst {a : Addr} {xs : List V} {ds : List D} : F a = some (.lst xs) → Reps A F ds xs → Rep A F (.lst ds) (.ref a)
  | dctK {a : Addr} {kvs : List (Key × V)} {ds : List (D × D)} : Rd F a (.dK kvs) → RepK A F ds kvs → Rep A F (.dct ds) (.ref a)
  | ins {a dx : Addr} {C : Str} {fs : List (Str × V)} {gs : List (Str × D)} : F a = some (.ins (A.ad C) dx fs) → F dx = some (.own a) → RepF A F gs fs → Rep A F (.ins C gs) (.ref a)
  | exc {a dd : Addr} {fs : List (Str × V)} {gs : List (Str × D)} : A.pin = some (a, dd) → F dd = some (.xd fs) → RepF A F gs fs → Rep A F (.exc gs) (.ref a)
  | scr {a : Addr} {ns : List Int} : SqL A.K F a (ns.map V.int) → Rep A F (.scr ns) (.ref a)
inductive Reps (A : Am) (F : Hp) : List D → List V → Prop
  | nil : Reps A F [] []
  | cons {d : D} {v : V} {ds : List D} {vs : List V} : Rep A F d v → Reps A F ds vs → Reps A F (d :: ds) (v :: vs)
inductive RepK (A : Am) (F : Hp) : List (D × D) → List (Key × V) → Prop
  | nil : RepK A F [] []
  | cons {k : Key} {d : D} {v : V} {ds : List (D × D)} {vs : List (Key × V)} : Rep A F d v → RepK A F ds vs → RepK A F ((kD k, d) :: ds) ((k, v) :: vs)
inductive RepF (A : Am) (F : Hp) : List (Str × D) → List (Str × V) → Prop
  | nil : RepF A F [] []
  | cons {n : Str} {d : D} {v : V} {ds : List (Str × D)} {vs : List (Str × V)} : Rep A F d v → RepF A F ds vs → RepF A F ((n, d) :: ds) ((n, v) :: vs)
end

section
variable {A : Am} {F F' : Hp}
theorem nolk_l {xs : List V} : ¬ Lk (.lst xs) := fun z => by rcases z with ⟨_, z⟩ | ⟨_, z⟩ <;> cases z
theorem nolk_i {C dx : Addr} {fs : List (Str × V)} : ¬ Lk (.ins C dx fs) := fun z => by rcases z with ⟨_, z⟩ | ⟨_, z⟩ <;> cases z
theorem nolk_x {fs : List (Str × V)} : ¬ Lk (.xd fs) := fun z => by rcases z with ⟨_, z⟩ | ⟨_, z⟩ <;> cases z
theorem nolk_o {a : Addr} : ¬ Lk (.own a) := fun z => by rcases z with ⟨_, z⟩ | ⟨_, z⟩ <;> cases z
mutual
theorem Rep.mono (e : Le F F') {d : D} {v : V} : Rep A F d v → Rep A F' d v
  | .non => .non
  | .bl b => .bl b
  | .int i => .int i
  | .str s => .str s
  | .ty n => .ty n
  | .top n => .top n
  | .tup h r => .tup (e.t h) (Reps.mono e r)
  | .lst h r => .lst (e.keep h nolk_l) (Reps.mono e r)
  | .dctK h r => .dctK (e.rd h) (RepK.mono e r)
  | .ins h1 h2 r => .ins (e.keep h1 nolk_i) (e.keep h2 nolk_o) (RepF.mono e r)
  | .exc h0 h1 r => .exc h0 (e.keep h1 nolk_x) (RepF.mono e r)
  | .scr h => .scr (e.l h)
theorem Reps.mono (e : Le F F') {ds : List D} {vs : List V} : Reps A F ds vs → Reps A F' ds vs
  | .nil => .nil
  | .cons h r => .cons (Rep.mono e h) (Reps.mono e r)
theorem RepK.mono (e : Le F F') {ds : List (D × D)} {vs : List (Key × V)} : RepK A F ds vs → RepK A F' ds vs
  | .nil => .nil
  | .cons h r => .cons (Rep.mono e h) (RepK.mono e r)
theorem RepF.mono (e : Le F F') {ds : List (Str × D)} {vs : List (Str × V)} : RepF A F ds vs → RepF A F' ds vs
  | .nil => .nil
  | .cons h r => .cons (Rep.mono e h) (RepF.mono e r)
end
end
end DL
namespace DL
open PySem L2 Evl

/-! ### the state -/
inductive Ow where
  | lst (ds : List D) | dct (kvs : List (D × D)) | pen
inductive Sl where
  | fz (d : D) | ow (o : Ow)
abbrev Env := List (Option Sl)

def penKvs (q : Addr) (a g c f : Int) : List (Key × V) := [(.inr "cells", .ref q), (.inr "at", .int a), (.inr "digits", .int g), (.inr "count", .int c), (.inr "fold", .int f)]
/-- the law's pen: a dict at p, its cells at q -/
def PenAt (H : Hp) (p q : Addr) : Prop := p ≠ q ∧ ∃ (cells : List Int) (a g c f : Int), H p = some (.dK (penKvs q a g c f)) ∧ H q = some (.lst (cells.map V.int)) ∧ 0 ≤ a ∧ cells.length ≤ 63 ∧ 0 ≤ g ∧ 0 ≤ f ∧ f < 2147483648
def OwAt (A : Am) (F H : Hp) : Ow → Addr → Prop
  | .lst ds, a => ∃ vs, H a = some (.lst vs) ∧ Reps A F ds vs
  | .dct ds, a => ∃ kvs, H a = some (.dK kvs) ∧ RepK A F ds kvs
  | .pen, a => ∃ q, PenAt H a q
def Ft (H : Hp) : Ow → Addr → Addr → Prop
  | .pen, a, b => b = a ∨ PenAt H a b
  | .lst _, a, b => b = a
  | .dct _, a, b => b = a
def Own (σ : L2.St) (δ : Env) (H : Hp) (b : Addr) : Prop := ∃ (i : Nat) (o : Ow) (a : Addr), δ[i]? = some (some (.ow o)) ∧ σ[i]? = some (some (.ref a)) ∧ Ft H o a b
def SlAt (A : Am) (F H : Hp) : Sl → V → Prop
  | .fz d, v => Rep A F d v
  | .ow o, v => ∃ a, v = .ref a ∧ OwAt A F H o a ∧ ∀ b, Ft H o a b → F b = none

structure Stt (A : Am) (F H : Hp) (σ : L2.St) (δ : Env) : Prop where
  sub : Ex F H
  tab : LamX.Tabs A.T H
  ftab : ∀ a ps, H a = some (.tbl ps) → F a = none
  len : σ.length = δ.length
  sl : ∀ (i : Nat) (s : Sl), δ[i]? = some (some s) → ∃ v, σ[i]? = some (some v) ∧ SlAt A F H s v
  sep : ∀ (i j : Nat) (o o' : Ow) (a a' b : Addr), δ[i]? = some (some (.ow o)) → σ[i]? = some (some (.ref a)) → δ[j]? = some (some (.ow o')) → σ[j]? = some (some (.ref a')) → Ft H o a b → Ft H o' a' b → i = j

/-- nothing that counts stands there: no object, or a table of code objects -/
def Fre (H : Hp) (b : Addr) : Prop := ∀ o, H b = some o → ∃ ps, o = .tbl ps
theorem fre_of {H : Hp} {b : Addr} (h : H b = none) : Fre H b := fun o e => by rw [h] at e; cases e
theorem fre_no {H : Hp} {b : Addr} {o : HO} (h : H b = some o) (n : ∀ ps, o ≠ .tbl ps) : ¬ Fre H b := fun z => by
  obtain ⟨ps, e⟩ := z _ h
  exact n ps e
/-- what happened between two states -/
structure Fr (σ : L2.St) (δ : Env) (F H : Hp) (σ' : L2.St) (δ' : Env) (F' H' : Hp) : Prop where
  up : Le F F'
  keep : ∀ a o, H a = some o → F a = none → (∀ ps, o ≠ .tbl ps) → ¬ Own σ δ H a → H' a = some o ∧ F' a = none
  there : ∀ a, Fre H' a → Fre H a
  own : ∀ b, Own σ' δ' H' b → Own σ δ H b ∨ Fre H b
  pen : ∀ (i : Nat), δ[i]? = some (some (.ow .pen)) → δ'[i]? = some (some (.ow .pen)) ∧ σ'[i]? = σ[i]?

/-- a result -/
def RvAt (A : Am) (σ : L2.St) (δ : Env) (H : Hp) (F' H' : Hp) (δ' : Env) : Sl → V → Prop
  | .fz d, v => Rep A F' d v
  | .ow o, v => ∃ a, v = .ref a ∧ OwAt A F' H' o a ∧ ∀ b, Ft H' o a b → F' b = none ∧ ¬ Own σ δ' H' b ∧ (Own σ δ H b ∨ Fre H b)

/-- nothing that stood changes; a result is made -/
structure New (A : Am) (F H F' H' : Hp) (r : Sl) (v : V) : Prop where
  fup : Ex F F'
  hup : Ex H H'
  sub : Ex F' H'
  old : ∀ a, H a ≠ none → F' a = F a
  tbl : ∀ a ps, H' a = some (.tbl ps) → H a = some (.tbl ps)
  res : match r with
    | .fz d => Rep A F' d v
    | .ow o => ∃ a, v = .ref a ∧ OwAt A F' H' o a ∧ ∀ b, Ft H' o a b → F' b = none ∧ H b = none

section
variable {A : Am} {F F' F'' H H' H'' : Hp} {σ σ' σ'' : L2.St} {δ δ' δ'' : Env} {v : V} {r : Sl}
theorem some_of_ne {a : Addr} (h : H a ≠ none) : ∃ o, H a = some o := by
  cases e : H a with
  | none => exact (h e).elim
  | some o => exact ⟨o, rfl⟩
theorem Fr.refl : Fr σ δ F H σ δ F H := ⟨Le.refl F, fun _ _ h h1 _ _ => ⟨h, h1⟩, fun _ h => h, fun _ h => .inl h, fun _ h => ⟨h, rfl⟩⟩
theorem Fr.trans (a : Fr σ δ F H σ' δ' F' H') (b : Fr σ' δ' F' H' σ'' δ'' F'' H'') : Fr σ δ F H σ'' δ'' F'' H'' where
  up := a.up.trans b.up
  keep := fun x o h hf n no => by
    obtain ⟨h1, f1⟩ := a.keep x o h hf n no
    have no1 : ¬ Own σ' δ' H' x := fun z => by
      rcases a.own x z with z | z
      · exact no z
      · exact fre_no h n z
    exact b.keep x o h1 f1 n no1
  there := fun x h => a.there x (b.there x h)
  own := fun x h => by
    rcases b.own x h with z | z
    · exact a.own x z
    · exact .inr (a.there x z)
  pen := fun i h => ⟨(b.pen i (a.pen i h).1).1, (b.pen i (a.pen i h).1).2.trans (a.pen i h).2⟩
theorem RvAt.back (a : Fr σ δ F H σ δ' F' H') (h : RvAt A σ δ' H' F'' H'' δ'' r v) : RvAt A σ δ H F'' H'' δ'' r v := by
  cases r with
  | fz d => exact h
  | ow o =>
    obtain ⟨x, e, h1, h2⟩ := h
    refine ⟨x, e, h1, fun b hb => ?_⟩
    obtain ⟨q1, q2, q3⟩ := h2 b hb
    refine ⟨q1, q2, ?_⟩
    rcases q3 with z | z
    · exact a.own b z
    · exact .inr (a.there b z)
theorem Stt.ftb (S : Stt A F H σ δ) {a : Addr} {o : HO} (h : F a = some o) : ∀ ps, o ≠ .tbl ps := fun ps z => by
  subst z
  have := S.ftab a ps (S.sub _ _ h)
  rw [h] at this; cases this
theorem Stt.own_f (S : Stt A F H σ δ) {b : Addr} (h : Own σ δ H b) : F b = none := by
  obtain ⟨i, o, a, h1, h2, h3⟩ := h
  obtain ⟨v, e, s⟩ := S.sl i _ h1
  obtain ⟨a', e1, _, hf⟩ := s
  rw [h2] at e
  cases e
  cases e1
  exact hf b h3
theorem ft_h {o : Ow} {a b : Addr} (h : OwAt A F H o a) (f : Ft H o a b) : H b ≠ none := by
  cases o with
  | lst ds => obtain ⟨vs, h, _⟩ := h; cases f; rw [h]; simp
  | dct ds =>
    cases f
    obtain ⟨_, h, _⟩ := h; rw [h]; simp
  | pen =>
    obtain ⟨q, hp⟩ := h
    rcases f with f | f
    · subst f
      obtain ⟨_, _, _, _, _, _, e, _⟩ := hp
      rw [e]; simp
    · obtain ⟨_, _, _, _, _, _, _, e, _⟩ := f
      rw [e]; simp
/-- what an owned object leans on: its footprint as it stands -/
theorem OwAt.keep {o : Ow} {a : Addr} (h : OwAt A F H o a) (e : Le F F') (k : ∀ b, Ft H o a b → H' b = H b) : OwAt A F' H' o a ∧ ∀ b, Ft H' o a b ↔ Ft H o a b := by
  cases o with
  | lst ds =>
    obtain ⟨vs, h, q⟩ := h
    exact ⟨⟨vs, (k a rfl).trans h, q.mono e⟩, fun b => Iff.rfl⟩
  | dct ds =>
    obtain ⟨vs, h, q⟩ := h
    exact ⟨⟨vs, (k a rfl).trans h, q.mono e⟩, fun b => Iff.rfl⟩
  | pen =>
    obtain ⟨q, ne, c, x1, x2, x3, x4, e1, e2, e3⟩ := h
    have ka := k a (.inl rfl)
    have hp : PenAt H a q := ⟨ne, c, x1, x2, x3, x4, e1, e2, e3⟩
    have kq := k q (.inr hp)
    refine ⟨⟨q, ne, c, x1, x2, x3, x4, ka.trans e1, kq.trans e2, e3⟩, fun b => ?_⟩
    constructor
    · rintro (z | ⟨ne', c', y1, y2, y3, y4, f1, f2, f3⟩)
      · exact .inl z
      · rw [ka, e1] at f1
        have : b = q := by
          have h0 := Option.some.inj f1
          injection h0 with h0
          unfold penKvs at h0
          injection h0 with h0 _
          injection h0 with _ h0
          injection h0 with h0
          exact h0.symm
        subst this
        exact .inr hp
    · rintro (z | ⟨ne', c', y1, y2, y3, y4, f1, f2, f3⟩)
      · exact .inl z
      · have : b = q := by
          rw [e1] at f1
          have h0 := Option.some.inj f1
          injection h0 with h0
          unfold penKvs at h0
          injection h0 with h0 _
          injection h0 with _ h0
          injection h0 with h0
          exact h0.symm
        subst this
        exact .inr ⟨ne, c, x1, x2, x3, x4, ka.trans e1, kq.trans e2, e3⟩

/-- a state behind a making of new things -/
theorem New.stt (n : New A F H F' H' r v) (S : Stt A F H σ δ) : Stt A F' H' σ δ ∧ Fr σ δ F H σ δ F' H' ∧ RvAt A σ δ H F' H' δ r v := by
  have hk : ∀ b, H b ≠ none → H' b = H b := fun b hb => by
    obtain ⟨o, e⟩ := some_of_ne hb
    rw [e]; exact n.hup _ _ e
  have ownk : ∀ (i : Nat) (o : Ow) (a : Addr), δ[i]? = some (some (.ow o)) → σ[i]? = some (some (.ref a)) → OwAt A F' H' o a ∧ (∀ b, Ft H' o a b ↔ Ft H o a b) ∧ ∀ b, Ft H o a b → F' b = none := fun i o a h1 h2 => by
    obtain ⟨w, e, s⟩ := S.sl i _ h1
    obtain ⟨a', e1, ho, hf⟩ := s
    rw [h2] at e; cases e; cases e1
    have hh : ∀ b, Ft H o a b → H b ≠ none := fun b hb => ft_h ho hb
    obtain ⟨q1, q2⟩ := ho.keep (H' := H') (le_ex n.fup) fun b hb => hk b (hh b hb)
    exact ⟨q1, q2, fun b hb => (n.old b (hh b hb)).trans (hf b hb)⟩
  have own_iff : ∀ b, Own σ δ H' b → Own σ δ H b := fun b ⟨i, o, a, h1, h2, h3⟩ => ⟨i, o, a, h1, h2, ((ownk i o a h1 h2).2.1 b).mp h3⟩
  refine ⟨⟨n.sub, S.tab.ext n.hup, fun a ps h => ?_, S.len, fun i s h => ?_, fun i j o o' a a' b h1 h2 h3 h4 h5 h6 => ?_⟩, ⟨le_ex n.fup, fun a o h hf _ _ => ⟨n.hup _ _ h, (n.old a (by rw [h]; simp)).trans hf⟩, fun a h => ?_, fun b h => .inl (own_iff b h), fun _ h => ⟨h, rfl⟩⟩, ?_⟩
  · have h0 := n.tbl a ps h
    exact (n.old a (by rw [h0]; simp)).trans (S.ftab a ps h0)
  · obtain ⟨w, e, s'⟩ := S.sl i s h
    refine ⟨w, e, ?_⟩
    cases s with
    | fz d => exact Rep.mono (le_ex n.fup) s'
    | ow o =>
      obtain ⟨a, e1, _, _⟩ := s'
      subst e1
      obtain ⟨q1, q2, q3⟩ := ownk i o a h e
      exact ⟨a, rfl, q1, fun b hb => q3 b ((q2 b).mp hb)⟩
  · exact S.sep i j o o' a a' b h1 h2 h3 h4 (((ownk i o a h1 h2).2.1 b).mp h5) (((ownk j o' a' h3 h4).2.1 b).mp h6)
  · exact fun o e => h o (n.hup _ _ e)
  · cases r with
    | fz d => exact n.res
    | ow o =>
      obtain ⟨a, e, h1, h2⟩ := n.res
      refine ⟨a, e, h1, fun b hb => ?_⟩
      obtain ⟨q1, q2⟩ := h2 b hb
      refine ⟨q1, fun z => ?_, .inr (fre_of q2)⟩
      have hz := own_iff b z
      obtain ⟨i, o', a', h3, h4, h5⟩ := hz
      obtain ⟨w, e', s'⟩ := S.sl i _ h3
      obtain ⟨a'', e1, ho, _⟩ := s'
      rw [h4] at e'; cases e'; cases e1
      exact ft_h ho h5 q2
end
end DL
namespace DL
open PySem L2 Evl

structure DX where
  cls : Str
  fs : List (Str × D)

/-- an error behind a state -/
structure ErAt (A : Am) (σ : L2.St) (δ : Env) (F H : Hp) (x : DX) (F' H' : Hp) (cls : Value) (d : Option Addr) : Prop where
  up : Le F F'
  sub : Ex F' H'
  tab : LamX.Tabs A.T H'
  ftab : ∀ a ps, H' a = some (.tbl ps) → F' a = none
  keep : ∀ a o, H a = some o → F a = none → (∀ ps, o ≠ .tbl ps) → ¬ Own σ δ H a → H' a = some o ∧ F' a = none
  there : ∀ a, Fre H' a → Fre H a
  cl : cls = .ref (A.ad x.cls)
  fs : (x.fs = [] ∧ d = none) ∨ ∃ dd vs, d = some dd ∧ H' dd = some (.xd vs) ∧ RepF A F' x.fs vs
  new : ∀ e, d = some e → Fre H e

abbrev GE := Env → (Sl → Env → Prop) → (DX → Prop) → Prop
abbrev GT := Env → (Bool → Env → Prop) → (DX → Prop) → Prop

def tE (A : Am) (E : XK) (g : GE) : TE := fun σ H Q => ∃ (F : Hp) (δ : Env) (P : Sl → Env → Prop) (X : DX → Prop), Stt A F H σ δ ∧ g δ P X ∧
  (∀ r δ' F' H' v, P r δ' → Stt A F' H' σ δ' → Fr σ δ F H σ δ' F' H' → RvAt A σ δ H F' H' δ' r v → Q v H') ∧
  (∀ x F' H' cls d, X x → ErAt A σ δ F H x F' H' cls d → E cls d H')
def tT (A : Am) (E : XK) (g : GT) : TT := fun σ H Q => ∃ (F : Hp) (δ : Env) (P : Bool → Env → Prop) (X : DX → Prop), Stt A F H σ δ ∧ g δ P X ∧
  (∀ b δ' F' H', P b δ' → Stt A F' H' σ δ' → Fr σ δ F H σ δ' F' H' → Q b H') ∧
  (∀ x F' H' cls d, X x → ErAt A σ δ F H x F' H' cls d → E cls d H')

theorem pe_weak {X : Cx} {e : Expr} {t t' : TE} (h : PE X e t) (i : ∀ σ H Q, t' σ H Q → t σ H Q) : PE X e t' := ⟨fun pins s σ H Q I q => h.run pins s σ H Q I (i _ _ _ q)⟩
theorem pt_weak {X : Cx} {e : Expr} {t t' : TT} (h : PT X e t) (i : ∀ σ H Q, t' σ H Q → t σ H Q) : PT X e t' := ⟨fun pins s σ H Q I q => h.run pins s σ H Q I (i _ _ _ q)⟩
theorem pa_weak {X : Cx} {es : List Expr} {t t' : TA} (h : PA X es t) (i : ∀ σ H Q, t' σ H Q → t σ H Q) : PA X es t' := ⟨fun pos pins s σ H Q I q => h.run pos pins s σ H Q I (i _ _ _ q)⟩

/-- the value of a result; what is owned and not kept by a name is frozen -/
def vw : Sl → (D → Prop) → Prop
  | .fz d, k => k d
  | .ow (.lst ds), k => k (.lst ds)
  | .ow (.dct ds), k => k (.dct ds)
  | .ow .pen, _ => False

section
variable {A : Am} {F F' F'' H H' H'' : Hp} {σ σ' σ'' : L2.St} {δ δ' δ'' : Env} {v : V} {r : Sl} {x : DX} {cls : Value} {d : Option Addr}
theorem ErAt.back (a : Fr σ δ F H σ δ' F' H') (h : ErAt A σ δ' F' H' x F'' H'' cls d) : ErAt A σ δ F H x F'' H'' cls d where
  up := a.up.trans h.up
  sub := h.sub
  tab := h.tab
  ftab := h.ftab
  keep := fun y o h0 hf n no => by
    obtain ⟨h1, f1⟩ := a.keep y o h0 hf n no
    have no1 : ¬ Own σ δ' H' y := fun z => by
      rcases a.own y z with z | z
      · exact no z
      · exact fre_no h0 n z
    exact h.keep y o h1 f1 n no1
  there := fun y q => a.there y (h.there y q)
  cl := h.cl
  fs := h.fs
  new := fun e z => a.there e (h.new e z)
theorem own_set {i : Nat} {s : Option Sl} {b : Addr} (hs : ∀ o, s ≠ some (.ow o)) (h : Own σ (δ.set i s) H b) : Own σ δ H b ∧ ∃ (j : Nat) (o : Ow) (a : Addr), j ≠ i ∧ δ[j]? = some (some (.ow o)) ∧ σ[j]? = some (some (.ref a)) ∧ Ft H o a b := by
  obtain ⟨j, o, a, h1, h2, h3⟩ := h
  have hji : j ≠ i := fun z => by
    subst z
    rw [List.getElem?_set] at h1
    rw [if_pos rfl] at h1
    split at h1
    · exact hs o (Option.some.inj h1)
    · cases h1
  rw [List.getElem?_set_ne (Ne.symm hji)] at h1
  exact ⟨⟨j, o, a, h1, h2, h3⟩, j, o, a, hji, h1, h2, h3⟩
theorem Stt.drop (S : Stt A F H σ δ) (i : Nat) : Stt A F H σ (δ.set i none) where
  sub := S.sub
  tab := S.tab
  ftab := S.ftab
  len := by rw [List.length_set]; exact S.len
  sl := fun j s h => by
    by_cases hj : j = i
    · subst hj
      rw [List.getElem?_set, if_pos rfl] at h
      split at h <;> cases h
    · rw [List.getElem?_set_ne (Ne.symm hj)] at h
      exact S.sl j s h
  sep := fun j k o o' a a' b h1 h2 h3 h4 h5 h6 => by
    have f : ∀ {j : Nat} {o : Ow}, (δ.set i none)[j]? = some (some (.ow o)) → δ[j]? = some (some (.ow o)) := fun {j o} h => by
      by_cases hj : j = i
      · subst hj
        rw [List.getElem?_set, if_pos rfl] at h
        split at h <;> cases h
      · rw [List.getElem?_set_ne (Ne.symm hj)] at h
        exact h
    exact S.sep j k o o' a a' b (f h1) h2 (f h3) h4 h5 h6
theorem Stt.setfz (S : Stt A F H σ δ) {i : Nat} {dd : D} (hv : σ[i]? = some (some v)) (hr : Rep A F dd v) : Stt A F H σ (δ.set i (some (.fz dd))) where
  sub := S.sub
  tab := S.tab
  ftab := S.ftab
  len := by rw [List.length_set]; exact S.len
  sl := fun j s h => by
    by_cases hj : j = i
    · subst hj
      rw [List.getElem?_set, if_pos rfl] at h
      split at h
      · cases h; exact ⟨v, hv, hr⟩
      · cases h
    · rw [List.getElem?_set_ne (Ne.symm hj)] at h
      exact S.sl j s h
  sep := fun j k o o' a a' b h1 h2 h3 h4 h5 h6 => by
    have f : ∀ {j : Nat} {o : Ow}, (δ.set i (some (.fz dd)))[j]? = some (some (.ow o)) → δ[j]? = some (some (.ow o)) := fun {j o} h => by
      by_cases hj : j = i
      · subst hj
        rw [List.getElem?_set, if_pos rfl] at h
        split at h <;> cases h
      · rw [List.getElem?_set_ne (Ne.symm hj)] at h
        exact h
    exact S.sep j k o o' a a' b (f h1) h2 (f h3) h4 h5 h6
theorem Stt.freeze {a : Addr} {o : HO} (S : Stt A F H σ δ) (ha : H a = some o) (hnt : ∀ ps, o ≠ .tbl ps) (hf : F a = none) (hn : ¬ Own σ δ H a) : Stt A (upd F a o) H σ δ where
  sub := fun b u h => by
    by_cases hb : b = a
    · subst hb; rw [upd_same] at h; cases h; exact ha
    · rw [upd_ne hb] at h; exact S.sub b u h
  tab := S.tab
  ftab := fun b ps h => by
    by_cases hb : b = a
    · subst hb; rw [ha] at h; cases h; exact (hnt ps rfl).elim
    · rw [upd_ne hb]; exact S.ftab b ps h
  len := S.len
  sl := fun j s h => by
    obtain ⟨w, e, q⟩ := S.sl j s h
    refine ⟨w, e, ?_⟩
    cases s with
    | fz d => exact Rep.mono (Le.new hf) q
    | ow o' =>
      obtain ⟨c, e1, h1, h2⟩ := q
      subst e1
      refine ⟨c, rfl, (h1.keep (Le.new hf) fun _ _ => rfl).1, fun b hb => ?_⟩
      have : b ≠ a := fun z => by subst z; exact hn ⟨j, o', c, h, e, hb⟩
      rw [upd_ne this]; exact h2 b hb
  sep := S.sep
/-- an owned thing that no name keeps is frozen -/
theorem frz_tmp {σ0 : L2.St} {δ0 : Env} {F0 H0 : Hp} {k : D → Prop} (S : Stt A F H σ δ) (f : Fr σ0 δ0 F0 H0 σ δ F H) (R : RvAt A σ δ0 H0 F H δ r v) (h0 : σ0 = σ) (h : vw r k) :
    ∃ F' dd, Le F F' ∧ Stt A F' H σ δ ∧ Fr σ0 δ0 F0 H0 σ δ F' H ∧ Rep A F' dd v ∧ k dd := by
  subst h0
  have main : ∀ (a : Addr) (o : HO) (dd : D), v = .ref a → H a = some o → (∀ ps, o ≠ .tbl ps) → F a = none → ¬ Own σ0 δ H a → (Own σ0 δ0 H0 a ∨ Fre H0 a) → Rep A (upd F a o) dd v → k dd →
      ∃ F' dd, Le F F' ∧ Stt A F' H σ0 δ ∧ Fr σ0 δ0 F0 H0 σ0 δ F' H ∧ Rep A F' dd v ∧ k dd := fun a o dd e ha hnt hf hn hb hr hk => by
    refine ⟨upd F a o, dd, Le.new hf, S.freeze ha hnt hf hn, ⟨f.up.trans (Le.new hf), fun b u q qf n no => ?_, f.there, f.own, f.pen⟩, hr, hk⟩
    obtain ⟨h1, f1⟩ := f.keep b u q qf n no
    refine ⟨h1, ?_⟩
    have : b ≠ a := fun z => by
      subst z
      rcases hb with z | z
      · exact no z
      · exact fre_no q n z
    rw [upd_ne this]; exact f1
  cases r with
  | fz d => exact ⟨F, d, Le.refl F, S, f, R, h⟩
  | ow o =>
    obtain ⟨a, e, ho, hb⟩ := R
    cases o with
    | lst ds =>
      obtain ⟨vs, hv, hr⟩ := ho
      obtain ⟨q1, q2, q3⟩ := hb a rfl
      subst e
      exact main a (.lst vs) (.lst ds) rfl hv (fun _ z => by cases z) q1 q2 q3 (.lst upd_same (hr.mono (Le.new q1))) h
    | dct ds =>
      obtain ⟨q1, q2, q3⟩ := hb a rfl
      subst e
      obtain ⟨vs, hv, hr⟩ := ho
      exact main a (.dK vs) (.dct ds) rfl hv (fun _ z => by cases z) q1 q2 q3 (.dctK (.inl upd_same) (hr.mono (Le.new q1))) h
    | pen => exact h.elim
theorem frz_slot {k : Sl → Env → Prop} {i : Nat} {o : Ow} (S : Stt A F H σ δ) (hi : δ[i]? = some (some (.ow o))) (h : vw (.ow o) fun dd => k (.fz dd) (δ.set i (some (.fz dd)))) :
    ∃ F' dd v, σ[i]? = some (some v) ∧ Stt A F' H σ (δ.set i (some (.fz dd))) ∧ Fr σ δ F H σ (δ.set i (some (.fz dd))) F' H ∧ Rep A F' dd v ∧ k (.fz dd) (δ.set i (some (.fz dd))) := by
  obtain ⟨v, e, a, e1, ho, hf⟩ := S.sl i _ hi
  subst e1
  have main : ∀ (u : HO) (dd : D), o ≠ .pen → H a = some u → (∀ ps, u ≠ .tbl ps) → F a = none → Ft H o a a → Rep A (upd F a u) dd (.ref a) → k (.fz dd) (δ.set i (some (.fz dd))) → ∃ F' dd v, σ[i]? = some (some v) ∧ Stt A F' H σ (δ.set i (some (.fz dd))) ∧ Fr σ δ F H σ (δ.set i (some (.fz dd))) F' H ∧ Rep A F' dd v ∧ k (.fz dd) (δ.set i (some (.fz dd))) :=
    fun u dd hp ha hnt hf0 hft hr hk => by
      have hn : ¬ Own σ (δ.set i none) H a := fun z => by
        obtain ⟨_, j, o', a', hji, h1, h2, h3⟩ := own_set (s := none) (fun _ z => by cases z) z
        exact hji (S.sep j i o' o a' a a h1 h2 hi e h3 hft)
      have S1 := (S.drop i).freeze ha hnt hf0 hn
      have S2 := S1.setfz (i := i) e hr
      rw [List.set_set] at S2
      refine ⟨upd F a u, dd, .ref a, e, S2, ⟨Le.new hf0, fun b w q qf n no => ⟨q, ?_⟩, fun _ z => z, fun b z => .inl (own_set (fun _ z => by cases z) z).1, fun j z => ?_⟩, hr, hk⟩
      rotate_left
      · by_cases hj : j = i
        · subst hj; rw [hi] at z; cases z; exact (hp rfl).elim
        · rw [List.getElem?_set_ne (Ne.symm hj)]; exact ⟨z, rfl⟩
      have : b ≠ a := fun z => by subst z; exact no ⟨i, o, b, hi, e, hft⟩
      rw [upd_ne this]; exact qf
  cases o with
  | lst ds =>
    obtain ⟨vs, hv, hr⟩ := ho
    have q1 := hf a rfl
    exact main (.lst vs) (.lst ds) (fun z => by cases z) hv (fun _ z => by cases z) q1 rfl (.lst upd_same (hr.mono (Le.new q1))) h
  | dct ds =>
    have q1 := hf a rfl
    obtain ⟨vs, hv, hr⟩ := ho
    exact main (.dK vs) (.dct ds) (fun z => by cases z) hv (fun _ z => by cases z) q1 rfl (.dctK (.inl upd_same) (hr.mono (Le.new q1))) h
  | pen => exact h.elim
end

/-! ### names and constants -/
/-- a name: what it owns is frozen -/
def eVar (i : Nat) : GE := fun δ P _ => match δ[i]? with
  | some (some (.fz d)) => P (.fz d) δ
  | some (some (.ow o)) => vw (.ow o) fun d => P (.fz d) (δ.set i (some (.fz d)))
  | _ => False
def eC (d : D) : GE := fun δ P _ => P (.fz d) δ
section
variable {X : Cx} {A : Am} {E : XK} {e : Expr} {g : GE}
theorem de_var {i : Nat} (h : PE X e (tVar i)) : PE X e (tE A E (eVar i)) := pe_weak h fun σ H Q ⟨F, δ, P, Z, S, q, k, _⟩ => by
  unfold eVar at q
  split at q
  · rename_i d hd
    obtain ⟨v, e, s⟩ := S.sl i _ hd
    exact ⟨v, e, k _ _ _ _ _ q S Fr.refl s⟩
  · rename_i o ho
    obtain ⟨F', dd, v, e, S', f, hr, q'⟩ := frz_slot (k := P) S ho q
    exact ⟨v, e, k _ _ _ _ _ q' S' f hr⟩
  · exact q.elim
theorem de_c {d : D} {v : V} (h : PE X e (tC v)) (hr : ∀ F, Rep A F d v) : PE X e (tE A E (eC d)) := pe_weak h fun σ H Q ⟨F, δ, P, Z, S, q, k, _⟩ => k _ _ _ _ _ q S Fr.refl (hr F)
end
end DL
namespace DL
open PySem L2 Evl

/-! ### operands -/
inductive Hd where
  | fix (d : D) | slot (i : Nat)
abbrev GO := Env → (Hd → Env → Prop) → (DX → Prop) → Prop
abbrev GA := Env → (List Hd → Env → Prop) → (DX → Prop) → Prop
def oE (g : GE) : GO := fun δ P X => g δ (fun r δ' => vw r fun d => P (.fix d) δ') X
/-- a name, looked at alone: what it owns stays its own -/
def oB (i : Nat) : GO := fun δ P _ => match δ[i]? with
  | some (some _) => P (.slot i) δ
  | _ => False
def aNil : GA := fun δ P _ => P [] δ
def aCons (g : GO) (gs : GA) : GA := fun δ P X => g δ (fun h δ1 => gs δ1 (fun hs δ2 => P (h :: hs) δ2) X) X
def rslv : Hd → Env → Option D
  | .fix d, _ => some d
  | .slot i, δ => match δ[i]? with
    | some (some (.fz d)) => some d
    | some (some (.ow (.lst ds))) => some (.lst ds)
    | some (some (.ow (.dct ds))) => some (.dct ds)
    | _ => none
def rsl (h : Hd) (δ : Env) (k : D → Prop) : Prop := match rslv h δ with
  | some d => k d
  | none => False
def rsls : List Hd → Env → (List D → Prop) → Prop
  | [], _, k => k []
  | h :: hs, δ, k => rsl h δ fun d => rsls hs δ fun ds => k (d :: ds)
def rfx : List Hd → (List D → Prop) → Prop
  | [], k => k []
  | .fix d :: hs, k => rfx hs fun ds => k (d :: ds)
  | .slot _ :: _, _ => False
def HdAt (A : Am) (F : Hp) (σ : L2.St) : Hd → V → Prop
  | .fix d, v => Rep A F d v
  | .slot i, v => σ[i]? = some (some v)
inductive HdsAt (A : Am) (F : Hp) (σ : L2.St) : List Hd → List V → Prop
  | nil : HdsAt A F σ [] []
  | cons {h : Hd} {v : V} {hs : List Hd} {vs : List V} : HdAt A F σ h v → HdsAt A F σ hs vs → HdsAt A F σ (h :: hs) (v :: vs)
/-- a value that is looked at alone -/
inductive ArgAt (A : Am) (F H : Hp) : D → V → Prop
  | rep {d : D} {v : V} : Rep A F d v → ArgAt A F H d v
  | lst {a : Addr} {ds : List D} {vs : List V} : H a = some (.lst vs) → Reps A F ds vs → ArgAt A F H (.lst ds) (.ref a)
  | dctK {a : Addr} {ds : List (D × D)} {vs : List (Key × V)} : H a = some (.dK vs) → RepK A F ds vs → ArgAt A F H (.dct ds) (.ref a)
inductive ArgsAt (A : Am) (F H : Hp) : List D → List V → Prop
  | nil : ArgsAt A F H [] []
  | cons {d : D} {v : V} {ds : List D} {vs : List V} : ArgAt A F H d v → ArgsAt A F H ds vs → ArgsAt A F H (d :: ds) (v :: vs)

def tO (A : Am) (E : XK) (g : GO) : TE := fun σ H Q => ∃ (F : Hp) (δ : Env) (P : Hd → Env → Prop) (X : DX → Prop), Stt A F H σ δ ∧ g δ P X ∧
  (∀ h δ' F' H' v, P h δ' → Stt A F' H' σ δ' → Fr σ δ F H σ δ' F' H' → HdAt A F' σ h v → Q v H') ∧
  (∀ x F' H' cls d, X x → ErAt A σ δ F H x F' H' cls d → E cls d H')
def tAr (A : Am) (E : XK) (g : GA) : TA := fun σ H Q => ∃ (F : Hp) (δ : Env) (P : List Hd → Env → Prop) (X : DX → Prop), Stt A F H σ δ ∧ g δ P X ∧
  (∀ hs δ' F' H' vs, P hs δ' → Stt A F' H' σ δ' → Fr σ δ F H σ δ' F' H' → HdsAt A F' σ hs vs → Q vs H') ∧
  (∀ x F' H' cls d, X x → ErAt A σ δ F H x F' H' cls d → E cls d H')

section
variable {A : Am} {F F' F'' H H' H'' : Hp} {σ σ' : L2.St} {δ δ' : Env} {v : V}
theorem HdAt.mono {h : Hd} (e : Le F F') (q : HdAt A F σ h v) : HdAt A F' σ h v := by
  cases h with
  | fix d => exact Rep.mono e q
  | slot i => exact q
theorem HdsAt.mono {hs : List Hd} {vs : List V} (e : Le F F') (q : HdsAt A F σ hs vs) : HdsAt A F' σ hs vs := by
  induction q with
  | nil => exact .nil
  | cons h _ ih => exact .cons (h.mono e) ih
theorem rsl_at {h : Hd} {k : D → Prop} (S : Stt A F H σ δ) (q : HdAt A F σ h v) (r : rsl h δ k) : ∃ d, ArgAt A F H d v ∧ k d := by
  cases h with
  | fix d => exact ⟨d, .rep q, r⟩
  | slot i =>
    have q0 : σ[i]? = some (some v) := q
    unfold rsl rslv at r
    simp only at r
    split at r
    · rename_i d hd
      split at hd
      · rename_i d' hd'
        cases hd
        obtain ⟨w, e, s⟩ := S.sl i _ hd'
        rw [q0] at e; cases e
        exact ⟨d, .rep s, r⟩
      · rename_i ds hd'
        cases hd
        obtain ⟨w, e, a, e1, ⟨vs, h1, h2⟩, _⟩ := S.sl i _ hd'
        rw [q0] at e; cases e; subst e1
        exact ⟨_, .lst h1 h2, r⟩
      · rename_i ds hd'
        cases hd
        obtain ⟨w, e, a, e1, h1, _⟩ := S.sl i _ hd'
        rw [q0] at e; cases e; subst e1
        obtain ⟨vs, h1, h2⟩ := h1
        exact ⟨_, .dctK h1 h2, r⟩
      · cases hd
    · exact r.elim
theorem rsls_at {hs : List Hd} {vs : List V} (S : Stt A F H σ δ) (q : HdsAt A F σ hs vs) : ∀ {k : List D → Prop}, rsls hs δ k → ∃ ds, ArgsAt A F H ds vs ∧ k ds := by
  induction q with
  | nil => exact fun {k} r => ⟨[], .nil, r⟩
  | cons h _ ih =>
    intro k r
    obtain ⟨d, h1, r1⟩ := rsl_at S h r
    obtain ⟨ds, h2, r2⟩ := ih r1
    exact ⟨d :: ds, .cons h1 h2, r2⟩
theorem rfx_at {hs : List Hd} {vs : List V} (q : HdsAt A F σ hs vs) : ∀ {k : List D → Prop}, rfx hs k → ∃ ds, Reps A F ds vs ∧ k ds := by
  induction q with
  | nil => exact fun {k} r => ⟨[], .nil, r⟩
  | @cons h v hs vs h0 _ ih =>
    intro k r
    cases h with
    | fix d =>
      obtain ⟨ds, h2, r2⟩ := ih r
      exact ⟨d :: ds, .cons h0 h2, r2⟩
    | slot i => exact r.elim
end

section
variable {X : Cx} {A : Am} {E : XK} {e : Expr} {es : List Expr} {g : GE}
theorem do_e (h : PE X e (tE A E g)) : PE X e (tO A E (oE g)) := pe_weak h fun σ H Q ⟨F, δ, P, Z, S, q, k, kx⟩ =>
  ⟨F, δ, _, Z, S, q, fun r δ' F' H' v q' S' f R => by
    obtain ⟨F2, dd, _, S2, f2, hr, q2⟩ := frz_tmp S' f R rfl q'
    exact k _ _ _ _ _ q2 S2 f2 hr, kx⟩
theorem do_b {i : Nat} (h : PE X e (tVar i)) : PE X e (tO A E (oB i)) := pe_weak h fun σ H Q ⟨F, δ, P, Z, S, q, k, kx⟩ => by
  unfold oB at q
  split at q
  · rename_i s hd
    obtain ⟨v, e, s⟩ := S.sl i _ hd
    exact ⟨v, e, k _ _ _ _ _ q S Fr.refl e⟩
  · exact q.elim
theorem da_nil : PA X [] (tAr A E aNil) := pa_weak pa_nil fun σ H Q ⟨F, δ, P, Z, S, q, k, kx⟩ => k _ _ _ _ _ q S Fr.refl .nil
theorem da_cons {g : GO} {gs : GA} (ha : PE X e (tO A E g)) (hr : PA X es (tAr A E gs)) (hs : starEach (e :: es) X.env = (false, eval e X.env) :: starEach es X.env := by rfl) : PA X (e :: es) (tAr A E (aCons g gs)) :=
  pa_weak (pa_cons ha hr hs) fun σ H Q ⟨F, δ, P, Z, S, q, k, kx⟩ =>
  ⟨F, δ, _, Z, S, q, fun h1 δ1 F1 H1 v1 q1 S1 f1 a1 => ⟨F1, δ1, _, Z, S1, q1, fun hs2 δ2 F2 H2 vs2 q2 S2 f2 a2 =>
    k _ _ _ _ _ q2 S2 (f1.trans f2) (.cons (a1.mono f2.up) a2), fun x F' H' cls d z er => kx x F' H' cls d z (er.back f1)⟩, kx⟩

/-! ### operators on values -/
abbrev Op2 := D → D → (Sl → Prop) → Prop
abbrev Op1 := D → (Sl → Prop) → Prop
abbrev OpN := List D → (Sl → Prop) → Prop
def OpD (A : Am) (r : R2) (op : Op2) : Prop := ∀ (F H : Hp) (d1 d2 : D) (v1 v2 : V) (k : Sl → Prop) (Q : VK), Ex F H → ArgAt A F H d1 v1 → ArgAt A F H d2 v2 → op d1 d2 k → (∀ r F' H' v, k r → New A F H F' H' r v → Q v H') → r v1 v2 H Q
def UnD (A : Am) (r : V → Hp → VK → Prop) (op : Op1) : Prop := ∀ (F H : Hp) (d1 : D) (v1 : V) (k : Sl → Prop) (Q : VK), Ex F H → ArgAt A F H d1 v1 → op d1 k → (∀ r F' H' v, k r → New A F H F' H' r v → Q v H') → r v1 H Q
def CaD (A : Am) (r : List V → Hp → VK → Prop) (op : OpN) : Prop := ∀ (F H : Hp) (ds : List D) (vs : List V) (k : Sl → Prop) (Q : VK), Ex F H → ArgsAt A F H ds vs → op ds k → (∀ r F' H' v, k r → New A F H F' H' r v → Q v H') → r vs H Q
def eBin (op : Op2) (a b : GO) : GE := fun δ P X => a δ (fun h1 δ1 => b δ1 (fun h2 δ2 => rsl h1 δ2 fun d1 => rsl h2 δ2 fun d2 => op d1 d2 fun r => P r δ2) X) X
def eUn (op : Op1) (a : GO) : GE := fun δ P X => a δ (fun h1 δ1 => rsl h1 δ1 fun d1 => op d1 fun r => P r δ1) X
def eCa (op : OpN) (gs : GA) : GE := fun δ P X => gs δ (fun hs δ1 => rsls hs δ1 fun ds => op ds fun r => P r δ1) X
theorem new_fz {F H : Hp} {d : D} {v : V} (s : Ex F H) (h : Rep A F d v) : New A F H F H (.fz d) v := ⟨Ex.refl F, Ex.refl H, s, fun _ _ => rfl, fun _ _ h => h, h⟩
/-- a new frozen object -/
theorem new_obj {F H : Hp} {d : D} {p : Addr} {o : HO} (s : Ex F H) (hp : H p = none) (hnt : ∀ ps, o ≠ .tbl ps) (h : Rep A (upd F p o) d (.ref p)) : New A F H (upd F p o) (upd H p o) (.fz d) (.ref p) := by
  have fp : F p = none := by
    cases e : F p with
    | none => rfl
    | some u => rw [s _ _ e] at hp; cases hp
  refine ⟨Ex.new fp, Ex.new hp, fun b u q => ?_, fun a ha => ?_, fun a ps q => ?_, h⟩
  · by_cases hb : b = p
    · subst hb; rw [upd_same] at q ⊢; exact q
    · rw [upd_ne hb] at q ⊢; exact s _ _ q
  · have : a ≠ p := fun z => by subst z; exact ha hp
    rw [upd_ne this]
  · by_cases hb : a = p
    · subst hb; rw [upd_same] at q; cases q; exact (hnt ps rfl).elim
    · rw [upd_ne hb] at q; exact q
/-- a new owned object -/
theorem new_own {F H : Hp} {o : Ow} {p : Addr} {u : HO} (s : Ex F H) (hp : H p = none) (hnt : ∀ ps, u ≠ .tbl ps) (h : OwAt A F (upd H p u) o p) (hf : ∀ b, Ft (upd H p u) o p b → b = p) : New A F H F (upd H p u) (.ow o) (.ref p) := by
  have fp : F p = none := by
    cases e : F p with
    | none => rfl
    | some u => rw [s _ _ e] at hp; cases hp
  refine ⟨Ex.refl F, Ex.new hp, s.trans (Ex.new hp), fun _ _ => rfl, fun a ps q => ?_, p, rfl, h, fun b hb => ?_⟩
  · by_cases hb : a = p
    · subst hb; rw [upd_same] at q; cases q; exact (hnt ps rfl).elim
    · rw [upd_ne hb] at q; exact q
  · rw [hf b hb]; exact ⟨fp, hp⟩
theorem new_lst {F H : Hp} {p : Addr} {ds : List D} {vs : List V} (s : Ex F H) (hp : H p = none) (h : Reps A F ds vs) : New A F H F (upd H p (.lst vs)) (.ow (.lst ds)) (.ref p) :=
  new_own s hp (fun _ z => by cases z) ⟨vs, upd_same, h⟩ fun _ z => z
theorem new_tup {F H : Hp} {p : Addr} {ds : List D} {vs : List V} (s : Ex F H) (hp : H p = none) (h : Reps A F ds vs) : New A F H (upd F p (.tup vs)) (upd H p (.tup vs)) (.fz (.tup ds)) (.ref p) :=
  new_obj s hp (fun _ z => by cases z) (.tup (st_of upd_same) (h.mono (Le.new (by
    cases e : F p with
    | none => rfl
    | some u => rw [s _ _ e] at hp; cases hp))))
theorem de_bin {op : Op2} {ga gb : GO} {r : R2} (o : OpD A r op) (h : PE X e (tOp r (tO A E ga) (tO A E gb))) : PE X e (tE A E (eBin op ga gb)) :=
  pe_weak h fun σ H Q ⟨F, δ, P, Z, S, q, k, kx⟩ => ⟨F, δ, _, Z, S, q, fun h1 δ1 F1 H1 v1 q1 S1 f1 a1 => ⟨F1, δ1, _, Z, S1, q1, fun h2 δ2 F2 H2 v2 q2 S2 f2 a2 => by
    obtain ⟨d1, r1, q3⟩ := rsl_at S2 (a1.mono f2.up) q2
    obtain ⟨d2, r2, q4⟩ := rsl_at S2 a2 q3
    refine o F2 H2 d1 d2 v1 v2 _ Q S2.sub r1 r2 q4 fun r F' H' v q5 n => ?_
    obtain ⟨S3, f3, R⟩ := n.stt S2
    exact k _ _ _ _ _ q5 S3 ((f1.trans f2).trans f3) (R.back (f1.trans f2)), fun x F' H' cls d z er => kx x F' H' cls d z (er.back f1)⟩, kx⟩
theorem de_un {op : Op1} {ga : GO} {r : V → Hp → VK → Prop} (o : UnD A r op) (h : PE X e (tUn r (tO A E ga))) : PE X e (tE A E (eUn op ga)) :=
  pe_weak h fun σ H Q ⟨F, δ, P, Z, S, q, k, kx⟩ => ⟨F, δ, _, Z, S, q, fun h1 δ1 F1 H1 v1 q1 S1 f1 a1 => by
    obtain ⟨d1, r1, q3⟩ := rsl_at S1 a1 q1
    refine o F1 H1 d1 v1 _ Q S1.sub r1 q3 fun r F' H' v q5 n => ?_
    obtain ⟨S3, f3, R⟩ := n.stt S1
    exact k _ _ _ _ _ q5 S3 (f1.trans f3) (R.back f1), kx⟩
theorem de_ca {op : OpN} {gs : GA} {r : List V → Hp → VK → Prop} (o : CaD A r op) (h : PE X e (tCB r (tAr A E gs))) : PE X e (tE A E (eCa op gs)) :=
  pe_weak h fun σ H Q ⟨F, δ, P, Z, S, q, k, kx⟩ => ⟨F, δ, _, Z, S, q, fun hs δ1 F1 H1 vs q1 S1 f1 a1 => by
    obtain ⟨ds, r1, q3⟩ := rsls_at S1 a1 q1
    refine o F1 H1 ds vs _ Q S1.sub r1 q3 fun r F' H' v q5 n => ?_
    obtain ⟨S3, f3, R⟩ := n.stt S1
    exact k _ _ _ _ _ q5 S3 (f1.trans f3) (R.back f1), kx⟩

/-! ### displays -/
def eTup (gs : GA) : GE := fun δ P X => gs δ (fun hs δ1 => rfx hs fun ds => ds.length ≤ 100000 ∧ P (.fz (.tup ds)) δ1) X
def eLst (gs : GA) : GE := fun δ P X => gs δ (fun hs δ1 => rfx hs fun ds => ds.length ≤ 100000 ∧ P (.ow (.lst ds)) δ1) X
theorem Reps.length {F : Hp} {ds : List D} {vs : List V} (h : Reps A F ds vs) : ds.length = vs.length := by
  induction ds generalizing vs with
  | nil => cases h; rfl
  | cons d ds ih => cases h with | cons _ h => simp [ih h]
theorem de_tup {gs : GA} (h : PE X e (tTup (tAr A E gs))) : PE X e (tE A E (eTup gs)) :=
  pe_weak h fun σ H Q ⟨F, δ, P, Z, S, q, k, kx⟩ => ⟨F, δ, _, Z, S, q, fun hs δ1 F1 H1 vs q1 S1 f1 a1 => by
    obtain ⟨ds, r1, hl, q3⟩ := rfx_at a1 q1
    refine ⟨sz_of (by rw [← r1.length]; exact hl), fun p hp => ?_⟩
    obtain ⟨S3, f3, R⟩ := (new_tup S1.sub hp r1).stt S1
    exact k _ _ _ _ _ q3 S3 (f1.trans f3) (R.back f1), kx⟩
theorem de_lst {gs : GA} (h : PE X e (tLst (tAr A E gs))) : PE X e (tE A E (eLst gs)) :=
  pe_weak h fun σ H Q ⟨F, δ, P, Z, S, q, k, kx⟩ => ⟨F, δ, _, Z, S, q, fun hs δ1 F1 H1 vs q1 S1 f1 a1 => by
    obtain ⟨ds, r1, hl, q3⟩ := rfx_at a1 q1
    refine ⟨sz_of (by rw [← r1.length]; exact hl), fun p hp => ?_⟩
    obtain ⟨S3, f3, R⟩ := (new_lst S1.sub hp r1).stt S1
    exact k _ _ _ _ _ q3 S3 (f1.trans f3) (R.back f1), kx⟩
end
end DL
namespace DL
open PySem L2 Evl

/-! ### plain data -/
mutual
def D.py : D → PyData
  | .non => .none
  | .bl b => .bool b
  | .int i => .int i
  | .str s => .str s
  | .tup xs => .tuple (D.pys xs)
  | .lst xs => .list (D.pys xs)
  | .dct _ => .none
  | .ty _ => .none
  | .top _ => .none
  | .ins _ _ => .none
  | .exc _ => .none
  | .scr _ => .none
def D.pys : List D → List PyData
  | [] => []
  | d :: ds => D.py d :: D.pys ds
end
mutual
def D.okp : D → Bool
  | .non => true
  | .bl _ => true
  | .int _ => true
  | .str s => (PyData.str s).canLay0
  | .tup xs => D.okps xs
  | .lst xs => D.okps xs
  | .dct _ => false
  | .ty _ => false
  | .top _ => false
  | .ins _ _ => false
  | .exc _ => false
  | .scr _ => false
def D.okps : List D → Bool
  | [] => true
  | d :: ds => D.okp d && D.okps ds
end
def D.ok (d : D) : Bool := d.okp && decide (d.py.depth ≤ 64)
theorem pys_map (ds : List D) : D.pys ds = ds.map D.py := by
  induction ds with
  | nil => rfl
  | cons d ds ih => simp [D.pys, ih]
theorem okps_all (ds : List D) : D.okps ds = ds.all D.okp := by
  induction ds with
  | nil => rfl
  | cons d ds ih => simp [D.okps, ih]
mutual
theorem lay_of : ∀ (d : D), d.okp = true → d.py.canLay0 = true
  | .non, _ => by simp [D.py, PyData.canLay0]
  | .bl b, _ => by simp [D.py, PyData.canLay0]
  | .int i, _ => by simp [D.py, PyData.canLay0]
  | .str s, h => by simpa [D.py, D.okp] using h
  | .tup xs, h => by
    rw [D.okp] at h
    rw [D.py, PyData.canLay0]; exact lays_of xs h
  | .lst xs, h => by
    rw [D.okp] at h
    rw [D.py, PyData.canLay0]; exact lays_of xs h
  | .dct _, h => by simp [D.okp] at h
  | .ty _, h => by simp [D.okp] at h
  | .top _, h => by simp [D.okp] at h
  | .ins _ _, h => by simp [D.okp] at h
theorem lays_of : ∀ (ds : List D), D.okps ds = true → PyData.canLayAll0 (D.pys ds) = true
  | [], _ => by simp [D.pys, PyData.canLayAll0]
  | d :: ds, h => by
    rw [D.okps, Bool.and_eq_true] at h
    rw [D.pys, PyData.canLayAll0, lay_of d h.1, lays_of ds h.2]; rfl
end
theorem ok_shaped {d : D} (h : d.ok = true) : SeqAt.shaped d.py = true := by
  unfold D.ok at h
  rw [Bool.and_eq_true] at h
  unfold SeqAt.shaped
  rw [lay_of d h.1, h.2]; rfl
section
variable {A : Am} {F H : Hp}
mutual
theorem dp_of (s : Ex F H) : ∀ (d : D) (v : V), d.okp = true → Rep A F d v → Dp A.K H v d.py
  | .non, v, _, h => by cases h; rw [D.py]; exact .non
  | .bl b, v, _, h => by cases h; rw [D.py]; exact .bl b
  | .int i, v, _, h => by cases h; rw [D.py]; exact .int i
  | .str s, v, _, h => by cases h; rw [D.py]; exact .str s
  | .tup xs, v, o, h => by
    rw [D.okp] at o
    cases h with
    | tup h r => rw [D.py]; exact .tup (ex_t s h) (dps_of s xs _ o r)
  | .lst xs, v, o, h => by
    rw [D.okp] at o
    cases h with
    | lst h r => rw [D.py]; exact .lst (sq_of (s _ _ h)) (dps_of s xs _ o r)
  | .dct _, _, o, _ => by simp [D.okp] at o
  | .ty _, _, o, _ => by simp [D.okp] at o
  | .top _, _, o, _ => by simp [D.okp] at o
  | .ins _ _, _, o, _ => by simp [D.okp] at o
theorem dps_of (s : Ex F H) : ∀ (ds : List D) (vs : List V), D.okps ds = true → Reps A F ds vs → DpAll A.K H vs (D.pys ds)
  | [], vs, _, h => by cases h; rw [D.pys]; exact .nil
  | d :: ds, vs, o, h => by
    rw [D.okps, Bool.and_eq_true] at o
    cases h with
    | cons h r => rw [D.pys]; exact .cons (dp_of s d _ o.1 h) (dps_of s ds _ o.2 r)
end
theorem dp_arg (s : Ex F H) {d : D} {v : V} (o : d.okp = true) (h : ArgAt A F H d v) : Dp A.K H v d.py := by
  cases h with
  | rep h => exact dp_of s d v o h
  | lst h r =>
    rw [D.okp] at o
    rw [D.py]; exact .lst (sq_of h) (dps_of s _ _ o r)
  | dctK h r => simp [D.okp] at o
theorem Reps.get {ds : List D} {vs : List V} (h : Reps A F ds vs) : ∀ {i : Nat} {d : D}, ds[i]? = some d → ∃ v, vs[i]? = some v ∧ Rep A F d v := by
  induction ds generalizing vs with
  | nil => intro i d e; simp at e
  | cons d0 ds ih =>
    intro i d e
    cases h with
    | cons h0 r =>
      cases i with
      | zero => simp at e; subst e; exact ⟨_, rfl, h0⟩
      | succ i => simpa using ih r (by simpa using e)
theorem Reps.at {ds : List D} {vs : List V} (h : Reps A F ds vs) {i : Int} {d : D} (e : atI ds i = some d) : ∃ v, atI vs i = some v ∧ Rep A F d v := by
  unfold atI at e ⊢
  rw [← h.length]
  cases q : ixN ds.length i with
  | none => rw [q] at e; cases e
  | some j => rw [q] at e; exact h.get e
theorem Reps.append {ds es : List D} {vs ws : List V} (h : Reps A F ds vs) (h' : Reps A F es ws) : Reps A F (ds ++ es) (vs ++ ws) := by
  induction ds generalizing vs with
  | nil => cases h; exact h'
  | cons d ds ih => cases h with | cons h r => exact .cons h (ih r)
theorem Reps.take {ds : List D} {vs : List V} (h : Reps A F ds vs) (n : Nat) : Reps A F (ds.take n) (vs.take n) := by
  induction ds generalizing vs n with
  | nil => cases h; simp; exact .nil
  | cons d ds ih =>
    cases h with
    | cons h r => cases n with
      | zero => exact .nil
      | succ n => exact .cons h (ih r n)
theorem Reps.drop {ds : List D} {vs : List V} (h : Reps A F ds vs) (n : Nat) : Reps A F (ds.drop n) (vs.drop n) := by
  induction ds generalizing vs n with
  | nil => cases h; simp; exact .nil
  | cons d ds ih =>
    cases h with
    | cons h r => cases n with
      | zero => exact .cons h r
      | succ n => exact ih r n
theorem Reps.reverse {ds : List D} {vs : List V} (h : Reps A F ds vs) : Reps A F ds.reverse vs.reverse := by
  induction ds generalizing vs with
  | nil => cases h; exact .nil
  | cons d ds ih =>
    cases h with
    | cons h r =>
      rw [List.reverse_cons, List.reverse_cons]
      exact (ih r).append (.cons h .nil)
theorem Reps.rep {ds : List D} {vs : List V} (h : Reps A F ds vs) (n : Nat) : Reps A F (List.replicate n ds).flatten (List.replicate n vs).flatten := by
  induction n with
  | zero => exact .nil
  | succ n ih => rw [List.replicate_succ, List.replicate_succ, List.flatten_cons, List.flatten_cons]; exact h.append ih
/-- the items of a list or a tuple that is looked at -/
theorem arg_lst (s : Ex F H) {ds : List D} {v : V} (h : ArgAt A F H (.lst ds) v) : ∃ a vs, v = .ref a ∧ H a = some (.lst vs) ∧ Reps A F ds vs := by
  cases h with
  | rep h => cases h with | lst h r => exact ⟨_, _, rfl, s _ _ h, r⟩
  | lst h r => exact ⟨_, _, rfl, h, r⟩
theorem arg_tup (s : Ex F H) {ds : List D} {v : V} (h : ArgAt A F H (.tup ds) v) : ∃ a vs, v = .ref a ∧ SqT A.K F a vs ∧ SqT A.K H a vs ∧ Reps A F ds vs := by
  cases h with
  | rep h => cases h with | tup h r => exact ⟨_, _, rfl, h, ex_t s h, r⟩
theorem arg_int {i : Int} {v : V} (h : ArgAt A F H (.int i) v) : v = .int i := by cases h with | rep h => cases h; rfl
theorem arg_str {i : Str} {v : V} (h : ArgAt A F H (.str i) v) : v = .str i := by cases h with | rep h => cases h; rfl
theorem arg_bl {i : Bool} {v : V} (h : ArgAt A F H (.bl i) v) : v = .bl i := by cases h with | rep h => cases h; rfl
end

/-! ### operators -/
def dEq : Op2 := fun a b k => a.ok = true ∧ b.ok = true ∧ k (.fz (.bl (PyData.eqv a.py b.py)))
def dNe : Op2 := fun a b k => a.ok = true ∧ b.ok = true ∧ k (.fz (.bl (!PyData.eqv a.py b.py)))
def dAdd : Op2 := fun a b k => match a, b with
  | .int i, .int j => k (.fz (.int (i + j)))
  | .str x, .str y => x.length + y.length ≤ 1000000 ∧ k (.fz (.str (x ++ y)))
  | .tup xs, .tup ys => xs.length + ys.length ≤ 1000000 ∧ k (.fz (.tup (xs ++ ys)))
  | .lst xs, .lst ys => xs.length + ys.length ≤ 1000000 ∧ k (.ow (.lst (xs ++ ys)))
  | _, _ => False
def dSub : Op2 := fun a b k => match a, b with
  | .int i, .int j => k (.fz (.int (i - j)))
  | _, _ => False
def small (i : Int) : Prop := i.natAbs < 2 ^ 400000
def dMul : Op2 := fun a b k => match a, b with
  | .int i, .int j => small i ∧ small j ∧ k (.fz (.int (i * j)))
  | .tup xs, .int j => xs ≠ [] ∧ 2 ≤ j ∧ j ≤ 1000 ∧ xs.length ≤ 1000 ∧ k (.fz (.tup (List.replicate j.toNat xs).flatten))
  | .lst xs, .int j => 0 ≤ j ∧ j ≤ 100000 ∧ xs.length * j.toNat ≤ 1000000 ∧ k (.ow (.lst (List.replicate j.toNat xs).flatten))
  | _, _ => False
def dDiv : Op2 := fun a b k => match a, b with
  | .int i, .int j => 0 < j ∧ j.natAbs < 2 ^ 8000 ∧ k (.fz (.int (i / j)))
  | _, _ => False
def dMod : Op2 := fun a b k => match a, b with
  | .int i, .int j => 0 < j ∧ k (.fz (.int (i % j)))
  | _, _ => False
def dPow : Op2 := fun a b k => match a, b with
  | .int i, .int j => 0 ≤ j ∧ j ≤ 1000000 ∧ i.natAbs < 2 ^ 64 ∧ k (.fz (.int (i ^ j.toNat)))
  | _, _ => False
def dNeg : Op1 := fun a k => match a with
  | .int i => k (.fz (.int (-i)))
  | _ => False
def dCmp (p : Int → Int → Bool) : Op2 := fun a b k => match a, b with
  | .int i, .int j => k (.fz (.bl (p i j)))
  | _, _ => False
/-- x in a list or tuple -/
def dIn (neg : Bool) : Op2 := fun a b k => a.ok = true ∧ b.ok = true ∧ match b with
  | .lst ds => k (.fz (.bl (xor neg (ds.any fun z => PyData.eqv z.py a.py))))
  | .tup ds => k (.fz (.bl (xor neg (ds.any fun z => PyData.eqv z.py a.py))))
  | _ => False
def dIx : Op2 := fun a b k => match a, b with
  | .lst ds, .int i => ∃ d, atI ds i = some d ∧ k (.fz d)
  | .tup ds, .int i => ∃ d, atI ds i = some d ∧ k (.fz d)
  | .str x, .int i => x.length ≤ 1000000 ∧ ∃ c, atI x.cps.toList i = some c ∧ k (.fz (.str ⟨#[c]⟩))
  | _, _ => False
def D.isNon : D → Bool
  | .non => true
  | _ => false
def dIsN (neg : Bool) : Op2 := fun a b k => match b with
  | .non => k (.fz (.bl (xor neg a.isNon)))
  | _ => False
def D.isBl : D → Bool → Bool
  | .bl x, y => decide (x = y)
  | _, _ => false
def dIsB (neg : Bool) : Op2 := fun a b k => match b with
  | .bl y => k (.fz (.bl (xor neg (a.isBl y))))
  | _ => False

theorem sz_big {n : Nat} (h : n ≤ 1000000) : n ≤ sizeLine := Nat.le_trans h (by rw [sizeLine_eq]; decide)
section
variable {X : Cx} {A : Am}
theorem od_eq (hK : X.K = A.K) : OpD A (rEqD X.K) dEq := fun F H d1 d2 v1 v2 k Q s a1 a2 ⟨o1, o2, q⟩ h => by
  rw [hK]
  have p1 := dp_arg s (by unfold D.ok at o1; rw [Bool.and_eq_true] at o1; exact o1.1) a1
  have p2 := dp_arg s (by unfold D.ok at o2; rw [Bool.and_eq_true] at o2; exact o2.1) a2
  exact ⟨_, _, p1, p2, ok_shaped o1, ok_shaped o2, h _ _ _ _ q (new_fz s (.bl _))⟩
theorem od_ne (hK : X.K = A.K) : OpD A (rNeD X.K) dNe := fun F H d1 d2 v1 v2 k Q s a1 a2 ⟨o1, o2, q⟩ h => by
  rw [hK]
  have p1 := dp_arg s (by unfold D.ok at o1; rw [Bool.and_eq_true] at o1; exact o1.1) a1
  have p2 := dp_arg s (by unfold D.ok at o2; rw [Bool.and_eq_true] at o2; exact o2.1) a2
  exact ⟨_, _, p1, p2, ok_shaped o1, ok_shaped o2, h _ _ _ _ q (new_fz s (.bl _))⟩
def rAdd4 (K : PySem.W.Frag) : R2 := fun x y H Q => (∃ i j, x = .int i ∧ y = .int j ∧ Q (.int (i + j)) H) ∨ ((∃ i j, x = .str i ∧ y = .str j ∧ i.length + j.length ≤ sizeLine ∧ Q (.str (i ++ j)) H) ∨ (rCatA K x y H Q ∨ rCat x y H Q))
theorem op_add4 : OpR X (binaryOp .Add) (rAdd4 X.K) := op_add.or (op_add_str.or (op_catA.or op_cat))
theorem od_add (hK : X.K = A.K) : OpD A (rAdd4 X.K) dAdd := fun F H d1 d2 v1 v2 k Q s a1 a2 q h => by
  rw [hK]
  unfold dAdd at q
  split at q
  · cases arg_int a1; cases arg_int a2
    exact .inl ⟨_, _, rfl, rfl, h _ _ _ _ q (new_fz s (.int _))⟩
  · cases arg_str a1; cases arg_str a2
    exact .inr (.inl ⟨_, _, rfl, rfl, sz_big q.1, h _ _ _ _ q.2 (new_fz s (.str _))⟩)
  · obtain ⟨a, vs, rfl, hF, hH, hr⟩ := arg_tup s a1
    obtain ⟨b, ws, rfl, gF, gH, gr⟩ := arg_tup s a2
    have z : vs.length + ws.length ≤ sizeLine := by rw [← hr.length, ← gr.length]; exact sz_big q.1
    refine .inr (.inr (.inl ⟨a, b, vs, ws, rfl, rfl, hH, gH, z, fun e => ?_, fun _ e => ?_, fun _ _ p hp => ?_⟩))
    · subst e
      cases hr
      exact h _ _ _ _ q.2 (new_fz s (.tup gF gr))
    · subst e
      cases gr
      rw [List.append_nil] at q
      exact h _ _ _ _ q.2 (new_fz s (.tup hF hr))
    · exact h _ _ _ _ q.2 (new_tup s hp (hr.append gr))
  · obtain ⟨a, vs, rfl, hH, hr⟩ := arg_lst s a1
    obtain ⟨b, ws, rfl, gH, gr⟩ := arg_lst s a2
    have z : vs.length + ws.length ≤ sizeLine := by rw [← hr.length, ← gr.length]; exact sz_big q.1
    exact .inr (.inr (.inr ⟨a, b, vs, ws, rfl, rfl, hH, gH, z, fun p hp => h _ _ _ _ q.2 (new_lst s hp (hr.append gr))⟩))
  · exact q.elim
theorem od_sub : OpD A (rI0 fun i j => .int (i - j)) dSub := fun F H d1 d2 v1 v2 k Q s a1 a2 q h => by
  unfold dSub at q
  split at q
  · cases arg_int a1; cases arg_int a2
    exact ⟨_, _, rfl, rfl, h _ _ _ _ q (new_fz s (.int _))⟩
  · exact q.elim
def rMul3 (K : PySem.W.Frag) : R2 := fun x y H Q => rI CMulW (fun i j => .int (i * j)) x y H Q ∨ (rRepT K x y H Q ∨ rRep x y H Q)
theorem op_mul3 : OpR X (binaryOp .Mult) (rMul3 X.K) := op_mulW.or (op_repT.or op_rep)
theorem od_mul (hK : X.K = A.K) : OpD A (rMul3 X.K) dMul := fun F H d1 d2 v1 v2 k Q s a1 a2 q h => by
  rw [hK]
  unfold dMul at q
  split at q
  · cases arg_int a1; cases arg_int a2
    exact .inl ⟨_, _, rfl, rfl, wide_mul q.1 q.2.1 (by decide) (by decide) (by decide), h _ _ _ _ q.2.2 (new_fz s (.int _))⟩
  · obtain ⟨a, vs, rfl, hF, hH, hr⟩ := arg_tup s a1
    cases arg_int a2
    obtain ⟨n0, n1, n2, n3, q⟩ := q
    refine .inr (.inl ⟨a, _, vs, rfl, rfl, hH, fun e => ?_, n1, n2, by rw [← hr.length]; exact n3, fun p hp => h _ _ _ _ q (new_tup s hp (hr.rep _))⟩)
    subst e; cases hr; exact n0 rfl
  · obtain ⟨a, vs, rfl, hH, hr⟩ := arg_lst s a1
    cases arg_int a2
    obtain ⟨n0, n1, n2, q⟩ := q
    exact .inr (.inr ⟨a, _, vs, rfl, rfl, hH, by omega, by omega, by rw [← hr.length]; exact sz_big n2, fun p hp => h _ _ _ _ q (new_lst s hp (hr.rep _))⟩)
  · exact q.elim
theorem od_div : OpD A (rI CDivW fun i j => .int (i / j)) dDiv := fun F H d1 d2 v1 v2 k Q s a1 a2 q h => by
  unfold dDiv at q
  split at q
  · cases arg_int a1; cases arg_int a2
    exact ⟨_, _, rfl, rfl, wide_div q.1 q.2.1 (by decide) (by decide), h _ _ _ _ q.2.2 (new_fz s (.int _))⟩
  · exact q.elim
theorem od_mod : OpD A (rI (fun _ j => 0 < j) fun i j => .int (i % j)) dMod := fun F H d1 d2 v1 v2 k Q s a1 a2 q h => by
  unfold dMod at q
  split at q
  · cases arg_int a1; cases arg_int a2
    exact ⟨_, _, rfl, rfl, q.1, h _ _ _ _ q.2 (new_fz s (.int _))⟩
  · exact q.elim
theorem od_pow : OpD A (rI CPow fun i j => .int (i ^ j.toNat)) dPow := fun F H d1 d2 v1 v2 k Q s a1 a2 q h => by
  unfold dPow at q
  split at q
  · cases arg_int a1; cases arg_int a2
    exact ⟨_, _, rfl, rfl, ⟨q.1, q.2.1, q.2.2.1⟩, h _ _ _ _ q.2.2.2 (new_fz s (.int _))⟩
  · exact q.elim
theorem ud_neg : UnD A (rU fun i => .int (-i)) dNeg := fun F H d1 v1 k Q s a1 q h => by
  unfold dNeg at q
  split at q
  · cases arg_int a1
    exact ⟨_, rfl, h _ _ _ _ q (new_fz s (.int _))⟩
  · exact q.elim
theorem od_cmp (p : Int → Int → Bool) : OpD A (rI0 fun i j => .bl (p i j)) (dCmp p) := fun F H d1 d2 v1 v2 k Q s a1 a2 q h => by
  unfold dCmp at q
  split at q
  · cases arg_int a1; cases arg_int a2
    exact ⟨_, _, rfl, rfl, h _ _ _ _ q (new_fz s (.bl _))⟩
  · exact q.elim
theorem od_ix (hK : X.K = A.K) : OpD A (rIx X.K) dIx := fun F H d1 d2 v1 v2 k Q s a1 a2 q h => by
  rw [hK]
  unfold dIx at q
  split at q
  · obtain ⟨a, vs, rfl, hH, hr⟩ := arg_lst s a1
    cases arg_int a2
    obtain ⟨d, e, q⟩ := q
    obtain ⟨v, e', r⟩ := hr.at e
    exact .inl ⟨a, vs, _, v, rfl, rfl, sq_of hH, e', h _ _ _ _ q (new_fz s r)⟩
  · obtain ⟨a, vs, rfl, hF, hH, hr⟩ := arg_tup s a1
    cases arg_int a2
    obtain ⟨d, e, q⟩ := q
    obtain ⟨v, e', r⟩ := hr.at e
    exact .inr (.inl ⟨a, vs, _, v, rfl, rfl, hH, e', h _ _ _ _ q (new_fz s r)⟩)
  · cases arg_str a1; cases arg_int a2
    obtain ⟨z, c, e, q⟩ := q
    exact .inr (.inr ⟨_, _, c, rfl, rfl, sz_big z, e, h _ _ _ _ q (new_fz s (.str _))⟩)
  · exact q.elim
theorem od_isN (neg : Bool) : OpD A (fun x y H Q => y = .non ∧ Q (.bl (xor neg (decide (x = .non)))) H) (dIsN neg) := fun F H d1 d2 v1 v2 k Q s a1 a2 q h => by
  unfold dIsN at q
  split at q
  · have e2 : v2 = .non := by cases a2 with | rep h => cases h; rfl
    have e1 : d1.isNon = decide (v1 = .non) := by
      cases a1 with
      | rep h => cases h <;> simp [D.isNon]
      | lst h r => simp [D.isNon]
      | dctK h r => simp [D.isNon]
    rw [e1] at q
    exact ⟨e2, h _ _ _ _ q (new_fz s (.bl _))⟩
  · exact q.elim
def plV : V → Bool
  | .non => true
  | .bl _ => true
  | .int _ => true
  | .str _ => true
  | .ref _ => true
  | .ty _ => true
  | _ => false
def rIsB2 (neg : Bool) : R2 := fun x y H Q => ∃ b : Bool, plV x = true ∧ y = .bl b ∧ Q (.bl (xor neg (decide (x = .bl b)))) H
theorem od_isB (neg : Bool) : OpD A (rIsB2 neg) (dIsB neg) := fun F H d1 d2 v1 v2 k Q s a1 a2 q h => by
  unfold dIsB at q
  split at q
  · rename_i y
    cases arg_bl a2
    have e1 : d1.isBl y = decide (v1 = .bl y) ∧ plV v1 = true := by
      cases a1 with
      | rep h => cases h <;> simp [D.isBl, plV]
      | lst h r => simp [D.isBl, plV]
      | dctK h r => simp [D.isBl, plV]
    rw [e1.1] at q
    exact ⟨_, e1.2, rfl, h _ _ _ _ q (new_fz s (.bl _))⟩
  · exact q.elim
end
end DL
namespace DL
open PySem L2 Evl

/-! ### statements -/
structure EndsD where
  nx : Env → Prop
  rt : Sl → Prop
  bk : Env → Prop
  ct : Env → Prop
  ex : DX → Prop
abbrev GS := Env → EndsD → Prop
/-- a result behind a change of the names -/
def RvS (A : Am) (σ : L2.St) (δ : Env) (H : Hp) (F' H' : Hp) (σ' : L2.St) (δ' : Env) : Sl → V → Prop
  | .fz d, v => Rep A F' d v
  | .ow o, v => ∃ a, v = .ref a ∧ OwAt A F' H' o a ∧ ∀ b, Ft H' o a b → F' b = none ∧ ¬ Own σ' δ' H' b ∧ (Own σ δ H b ∨ Fre H b)
def tS (A : Am) (E : XK) (g : GS) : TS := fun D σ H => ∃ (F : Hp) (δ : Env) (B : EndsD), Stt A F H σ δ ∧ g δ B ∧
  (∀ δ' F' H' σ', B.nx δ' → Stt A F' H' σ' δ' → Fr σ δ F H σ' δ' F' H' → D.nx σ' H') ∧
  (∀ δ' F' H' σ', B.bk δ' → Stt A F' H' σ' δ' → Fr σ δ F H σ' δ' F' H' → D.bk σ' H') ∧
  (∀ δ' F' H' σ', B.ct δ' → Stt A F' H' σ' δ' → Fr σ δ F H σ' δ' F' H' → D.ct σ' H') ∧
  (∀ r δ' F' H' σ' v, B.rt r → Stt A F' H' σ' δ' → Fr σ δ F H σ' δ' F' H' → RvS A σ δ H F' H' σ' δ' r v → D.rt v H') ∧
  (∀ x F' H' cls d, B.ex x → ErAt A σ δ F H x F' H' cls d → E cls d H')
theorem ps_weak {X : Cx} {st : Stmt} {t t' : TS} (h : PS X st t) (i : ∀ D σ H, t' D σ H → t D σ H) : PS X st t' := ⟨fun pins s σ H D I q => h.run pins s σ H D I (i _ _ _ q)⟩
theorem pss_weak {X : Cx} {st : List Stmt} {t t' : TS} (h : PSs X st t) (i : ∀ D σ H, t' D σ H → t D σ H) : PSs X st t' := ⟨fun pins s σ H D I q => h.run pins s σ H D I (i _ _ _ q)⟩

section
variable {A : Am} {F F' F'' H H' H'' : Hp} {σ σ' σ'' : L2.St} {δ δ' δ'' : Env} {v : V} {r : Sl} {x : DX} {cls : Value} {d : Option Addr}
theorem RvS.back (a : Fr σ δ F H σ' δ' F' H') (h : RvS A σ' δ' H' F'' H'' σ'' δ'' r v) : RvS A σ δ H F'' H'' σ'' δ'' r v := by
  cases r with
  | fz d => exact h
  | ow o =>
    obtain ⟨x, e, h1, h2⟩ := h
    refine ⟨x, e, h1, fun b hb => ?_⟩
    obtain ⟨q1, q2, q3⟩ := h2 b hb
    refine ⟨q1, q2, ?_⟩
    rcases q3 with z | z
    · exact a.own b z
    · exact .inr (a.there b z)
theorem ErAt.back' (a : Fr σ δ F H σ' δ' F' H') (h : ErAt A σ' δ' F' H' x F'' H'' cls d) : ErAt A σ δ F H x F'' H'' cls d where
  up := a.up.trans h.up
  sub := h.sub
  tab := h.tab
  ftab := h.ftab
  keep := fun y o h0 hf n no => by
    obtain ⟨h1, f1⟩ := a.keep y o h0 hf n no
    have no1 : ¬ Own σ' δ' H' y := fun z => by
      rcases a.own y z with z | z
      · exact no z
      · exact fre_no h0 n z
    exact h.keep y o h1 f1 n no1
  there := fun y q => a.there y (h.there y q)
  cl := h.cl
  fs := h.fs
  new := fun e z => a.there e (h.new e z)

def notPen (δ : Env) (i : Nat) : Prop := match δ[i]? with
  | some (some (.ow .pen)) => False
  | _ => True
theorem notPen_ne {i : Nat} (h : notPen δ i) : δ[i]? ≠ some (some (.ow .pen)) := fun z => by
  unfold notPen at h
  rw [z] at h
  exact h
/-- a name takes a result -/
theorem Stt.put {i : Nat} (S : Stt A F' H' σ δ') (f : Fr σ δ F H σ δ' F' H') (R : RvAt A σ δ H F' H' δ' r v) (np : notPen δ' i) :
    Stt A F' H' (σ.set i (some v)) (δ'.set i (some r)) ∧ Fr σ δ F H (σ.set i (some v)) (δ'.set i (some r)) F' H' := by
  have hl := S.len
  have cse : ∀ {j : Nat} {s : Sl}, (δ'.set i (some r))[j]? = some (some s) → (j = i ∧ s = r ∧ (σ.set i (some v))[j]? = some (some v)) ∨ (j ≠ i ∧ δ'[j]? = some (some s) ∧ (σ.set i (some v))[j]? = σ[j]?) := fun {j s} h => by
    by_cases hj : j = i
    · subst hj
      rw [List.getElem?_set, if_pos rfl] at h
      split at h
      · rename_i hlt
        cases h
        refine .inl ⟨rfl, rfl, ?_⟩
        rw [List.getElem?_set, if_pos rfl, if_pos (by omega)]
      · cases h
    · rw [List.getElem?_set_ne (Ne.symm hj)] at h
      exact .inr ⟨hj, h, List.getElem?_set_ne (Ne.symm hj)⟩
  have ownOf : ∀ {b : Addr}, Own (σ.set i (some v)) (δ'.set i (some r)) H' b → Own σ δ' H' b ∨ ∃ o a, r = .ow o ∧ v = .ref a ∧ Ft H' o a b := fun {b} h => by
    obtain ⟨j, o, a, h1, h2, h3⟩ := h
    rcases cse h1 with ⟨e, e1, e2⟩ | ⟨e, e1, e2⟩
    · rw [e2] at h2
      have hv : v = .ref a := Option.some.inj (Option.some.inj h2)
      exact .inr ⟨o, a, e1.symm, hv, h3⟩
    · exact .inl ⟨j, o, a, e1, e2 ▸ h2, h3⟩
  have np' := notPen_ne np
  refine ⟨⟨S.sub, S.tab, S.ftab, by simp [hl], fun j s h => ?_, fun j k o o' a a' b h1 h2 h3 h4 h5 h6 => ?_⟩, f.up, f.keep, f.there, fun b h => ?_, fun j h => ?_⟩
  · rcases cse h with ⟨e, e1, e2⟩ | ⟨e, e1, e2⟩
    · subst e1
      refine ⟨v, e2, ?_⟩
      cases s with
      | fz d => exact R
      | ow o =>
        obtain ⟨a, q1, q2, q3⟩ := R
        exact ⟨a, q1, q2, fun b hb => (q3 b hb).1⟩
    · obtain ⟨w, q1, q2⟩ := S.sl j s e1
      exact ⟨w, by rw [e2]; exact q1, q2⟩
  · rcases cse h1 with ⟨e, e1, e2⟩ | ⟨e, e1, e2⟩ <;> rcases cse h3 with ⟨g, g1, g2⟩ | ⟨g, g1, g2⟩
    · rw [e, g]
    · rw [e2] at h2
      rw [g2] at h4
      subst e1
      obtain ⟨a0, q1, q2, q3⟩ := R
      have hv : v = .ref a := Option.some.inj (Option.some.inj h2)
      rw [q1] at hv
      cases hv
      exact ((q3 b h5).2.1 ⟨k, o', a', g1, h4, h6⟩).elim
    · rw [e2] at h2
      rw [g2] at h4
      subst g1
      obtain ⟨a0, q1, q2, q3⟩ := R
      have hv : v = .ref a' := Option.some.inj (Option.some.inj h4)
      rw [q1] at hv
      cases hv
      exact ((q3 b h6).2.1 ⟨j, o, a, e1, h2, h5⟩).elim
    · rw [e2] at h2
      rw [g2] at h4
      exact S.sep j k o o' a a' b e1 h2 g1 h4 h5 h6
  · rcases ownOf h with z | ⟨o, a, q1, q2, q3⟩
    · exact f.own b z
    · subst q1
      obtain ⟨a0, e1, e2, e3⟩ := R
      rw [e1] at q2
      cases q2
      exact (e3 b q3).2.2
  · obtain ⟨z1, z2⟩ := f.pen j h
    have hj : j ≠ i := fun z => by subst z; exact np' z1
    rw [List.getElem?_set_ne (Ne.symm hj), List.getElem?_set_ne (Ne.symm hj)]
    exact ⟨z1, rfl⟩
end

def sNil : GS := fun δ B => B.nx δ
def sSeq (g1 g2 : GS) : GS := fun δ B => g1 δ { B with nx := fun δ' => g2 δ' B }
def sRet (g : GE) : GS := fun δ B => g δ (fun r _ => B.rt r) B.ex
def sRetN : GS := fun δ B => B.rt (.fz .non)
def sIf (c : GT) (g1 g2 : GS) : GS := fun δ B => c δ (fun b δ1 => if b = true then g1 δ1 B else g2 δ1 B) B.ex
def sSet (i : Nat) (g : GE) : GS := fun δ B => g δ (fun r δ' => notPen δ' i ∧ B.nx (δ'.set i (some r))) B.ex
def sDrop (g : GE) : GS := fun δ B => g δ (fun _ δ' => B.nx δ') B.ex
def sWhile (c : GT) (g : GS) : GS := fun δ B => ∃ W : Nat → Env → Prop, (∃ m, W m δ) ∧ ∀ m δ, W m δ →
  c δ (fun b δ1 => if b = true then g δ1 { B with nx := fun δ' => ∃ m', m' < m ∧ W m' δ', ct := fun δ' => ∃ m', m' < m ∧ W m' δ', bk := B.nx } else B.nx δ1) B.ex
/-- a name gives up what it owns -/
def eMv (i : Nat) : GE := fun δ P _ => match δ[i]? with
  | some (some (.fz d)) => P (.fz d) δ
  | some (some (.ow (.lst ds))) => P (.ow (.lst ds)) (δ.set i none)
  | some (some (.ow (.dct ds))) => P (.ow (.dct ds)) (δ.set i none)
  | _ => False
section
variable {X : Cx} {A : Am} {E : XK} {e : Expr} {g g1 g2 : GS} {ge : GE} {gt : GT} {st : Stmt} {sts a b : List Stmt} {pos pos' : Pos}
theorem ds_nil : PSs X [] (tS A E sNil) := pss_weak pss_nil fun D σ H ⟨F, δ, B, S, q, kn, _⟩ => kn _ _ _ _ q S Fr.refl
theorem ds_cons (h1 : PS X st (tS A E g1)) (h2 : PSs X sts (tS A E g2)) : PSs X (st :: sts) (tS A E (sSeq g1 g2)) :=
  pss_weak (pss_cons h1 h2) fun D σ H ⟨F, δ, B, S, q, kn, kb, kc, kr, kx⟩ =>
    ⟨F, δ, _, S, q, fun δ1 F1 H1 σ1 q1 S1 f1 => ⟨F1, δ1, B, S1, q1, fun _ _ _ _ z S2 f2 => kn _ _ _ _ z S2 (f1.trans f2), fun _ _ _ _ z S2 f2 => kb _ _ _ _ z S2 (f1.trans f2), fun _ _ _ _ z S2 f2 => kc _ _ _ _ z S2 (f1.trans f2), fun _ _ _ _ _ _ z S2 f2 R => kr _ _ _ _ _ _ z S2 (f1.trans f2) (R.back f1), fun x _ _ _ _ z er => kx x _ _ _ _ z (er.back' f1)⟩, kb, kc, kr, kx⟩
theorem ds_ret (h : PE X e (tE A E ge)) : PS X (.Return (some e) pos) (tS A E (sRet ge)) :=
  ps_weak (ps_ret h) fun D σ H ⟨F, δ, B, S, q, kn, kb, kc, kr, kx⟩ =>
    ⟨F, δ, _, _, S, q, fun r δ1 F1 H1 v q1 S1 f1 R => kr _ _ _ _ _ _ q1 S1 f1 (by cases r with | fz d => exact R | ow o => exact R), kx⟩
theorem ds_retN : PS X (.Return none pos) (tS A E sRetN) := ps_weak ps_retN fun D σ H ⟨F, δ, B, S, q, kn, kb, kc, kr, kx⟩ => kr _ _ _ _ _ _ q S Fr.refl .non
theorem ds_if {c : Expr} (hc : PT X c (tT A E gt)) (h1 : PSs X a (tS A E g1)) (h2 : PSs X b (tS A E g2)) : PS X (.If c a b pos) (tS A E (sIf gt g1 g2)) :=
  ps_weak (ps_if hc h1 h2) fun D σ H ⟨F, δ, B, S, q, kn, kb, kc, kr, kx⟩ =>
    ⟨F, δ, _, _, S, q, fun bb δ1 F1 H1 q1 S1 f1 => by
      have nxt : ∀ (g : GS), g δ1 B → tS A E g D σ H1 := fun g z => ⟨F1, δ1, B, S1, z, fun _ _ _ _ z S2 f2 => kn _ _ _ _ z S2 (f1.trans f2), fun _ _ _ _ z S2 f2 => kb _ _ _ _ z S2 (f1.trans f2), fun _ _ _ _ z S2 f2 => kc _ _ _ _ z S2 (f1.trans f2), fun _ _ _ _ _ _ z S2 f2 R => kr _ _ _ _ _ _ z S2 (f1.trans f2) (R.back f1), fun x _ _ _ _ z er => kx x _ _ _ _ z (er.back' f1)⟩
      cases bb with
      | true => exact nxt g1 q1
      | false => exact nxt g2 q1, kx⟩
theorem ds_pass : PS X (.Pass pos) (tS A E sNil) := ps_weak ps_pass fun D σ H ⟨F, δ, B, S, q, kn, _⟩ => kn _ _ _ _ q S Fr.refl
def sBrk : GS := fun δ B => B.bk δ
def sCnt : GS := fun δ B => B.ct δ
theorem ds_break : PS X (.Break pos) (tS A E sBrk) := ps_weak ps_break fun D σ H ⟨F, δ, B, S, q, kn, kb, _⟩ => kb _ _ _ _ q S Fr.refl
theorem ds_continue : PS X (.Continue pos) (tS A E sCnt) := ps_weak ps_continue fun D σ H ⟨F, δ, B, S, q, kn, kb, kc, _⟩ => kc _ _ _ _ q S Fr.refl
theorem ds_set {i : Nat} {x : Str} (hN : X.N.Nodup) (hi : X.N[i]? = some x) (hx : Loc X.env.scope x) (h : PE X e (tE A E ge)) (hs : swapsWith e (some (.Name x pos')) pos.line X.env = pure false := by rfl) (hf : X.fn x = true ∨ X.env.scope.names.lookup x = some .local := by first | exact .inl rfl | exact .inr rfl | assumption) :
    PS X (.Assign [.Name x pos'] e pos) (tS A E (sSet i ge)) :=
  ps_weak (ps_set hN hi hx h hs hf) fun D σ H ⟨F, δ, B, S, q, kn, kb, kc, kr, kx⟩ =>
    ⟨F, δ, _, _, S, q, fun r δ1 F1 H1 v ⟨np, q1⟩ S1 f1 R => by
      obtain ⟨S2, f2⟩ := S1.put f1 R np
      exact kn _ _ _ _ q1 S2 f2, kx⟩
theorem ds_expr (h : PE X e (tE A E ge)) (hs : swapsWith e none pos.line X.env = pure false := by rfl) : PS X (.Expr e pos) (tS A E (sDrop ge)) :=
  ps_weak (ps_expr h hs) fun D σ H ⟨F, δ, B, S, q, kn, kb, kc, kr, kx⟩ => ⟨F, δ, _, _, S, q, fun r δ1 F1 H1 v q1 S1 f1 R => kn _ _ _ _ q1 S1 f1, kx⟩
theorem ds_while {c : Expr} (hp : PassesOwn (model X.prog X.w) X.A X.env X.xe) (hc : PT X c (tT A E gt)) (hb : PSs X a (tS A E g)) : PS X (.While c a [] pos) (tS A E (sWhile gt g)) :=
  ps_weak (ps_while hp hc hb) fun D σ H ⟨F, δ, B, S, ⟨W, ⟨m0, w0⟩, q⟩, kn, kb, kc, kr, kx⟩ => by
    refine ⟨fun m σ' H' => ∃ F' δ', W m δ' ∧ Stt A F' H' σ' δ' ∧ Fr σ δ F H σ' δ' F' H', ⟨m0, F, δ, w0, S, Fr.refl⟩, fun m σ1 H1 ⟨F1, δ1, w1, S1, f1⟩ => ?_⟩
    refine ⟨F1, δ1, _, _, S1, q m δ1 w1, fun bb δ2 F2 H2 q2 S2 f2 => ?_, fun x _ _ _ _ z er => kx x _ _ _ _ z (er.back' f1)⟩
    have f12 := f1.trans f2
    cases bb with
    | true =>
      refine ⟨fun σ' H' => ∃ m', m' < m ∧ ∃ F' δ', W m' δ' ∧ Stt A F' H' σ' δ' ∧ Fr σ δ F H σ' δ' F' H', fun σ' H' z => z, F2, δ2, _, S2, q2, ?_, ?_, ?_, ?_, ?_⟩
      · exact fun δ3 F3 H3 σ3 ⟨m', hm, z⟩ S3 f3 => ⟨m', hm, F3, δ3, z, S3, f12.trans f3⟩
      · exact fun δ3 F3 H3 σ3 z S3 f3 => kn _ _ _ _ z S3 (f12.trans f3)
      · exact fun δ3 F3 H3 σ3 ⟨m', hm, z⟩ S3 f3 => ⟨m', hm, F3, δ3, z, S3, f12.trans f3⟩
      · exact fun r δ3 F3 H3 σ3 v z S3 f3 R => kr _ _ _ _ _ _ z S3 (f12.trans f3) (R.back f12)
      · exact fun x _ _ _ _ z er => kx x _ _ _ _ z (er.back' f12)
    | false => exact kn _ _ _ _ q2 S2 f12
theorem de_mv {i : Nat} (h : PE X e (tVar i)) : PE X e (tE A E (eMv i)) := pe_weak h fun σ H Q ⟨F, δ, P, Z, S, q, k, _⟩ => by
  have main : ∀ (o : Ow), o ≠ .pen → δ[i]? = some (some (.ow o)) → P (.ow o) (δ.set i none) → tVar i σ H Q := fun o hp ho q => by
    obtain ⟨v, e, a, e1, h1, h2⟩ := S.sl i _ ho
    subst e1
    refine ⟨_, e, k _ _ _ _ _ q (S.drop i) ⟨Le.refl F, fun _ _ z zf _ _ => ⟨z, zf⟩, fun _ z => z, fun b z => .inl (own_set (fun _ z => by cases z) z).1, fun j z => ?_⟩ ⟨a, rfl, h1, fun b hb => ⟨h2 b hb, fun z => ?_, .inl ⟨i, o, a, ho, e, hb⟩⟩⟩⟩
    · by_cases hj : j = i
      · subst hj; rw [ho] at z; cases z; exact (hp rfl).elim
      · rw [List.getElem?_set_ne (Ne.symm hj)]; exact ⟨z, rfl⟩
    · obtain ⟨_, j, o', a', hji, z1, z2, z3⟩ := own_set (s := none) (fun _ z => by cases z) z
      exact hji (S.sep j i o' o a' a b z1 z2 ho e z3 hb)
  unfold eMv at q
  split at q
  · rename_i d hd
    obtain ⟨v, e, s⟩ := S.sl i _ hd
    exact ⟨v, e, k _ _ _ _ _ q S Fr.refl s⟩
  · rename_i ds ho
    exact main _ (fun z => by cases z) ho q
  · rename_i ds ho
    exact main _ (fun z => by cases z) ho q
  · exact q.elim
end
end DL
namespace DL
open PySem L2 Evl PySem.Spec PyProof.Rows

/-! ### things walked through -/
abbrev GI := Env → (List D → Env → Prop) → (DX → Prop) → Prop
structure ItOk (A : Am) (J : It) (ds : List D) (F0 : Hp) : Prop where
  go : ∀ i F H, i < ds.length → Le F0 F → Ex F H → J.go i H
  yld : ∀ i F H x H', i < ds.length → Le F0 F → Ex F H → J.yld i H x H' → ∃ F' d, ds[i]? = some d ∧ New A F H F' H' (.fz d) x
  stop : ∀ i F H, i = ds.length → Le F0 F → Ex F H → J.stop i H
def tI (A : Am) (E : XK) (g : GI) : TI := fun σ H R => ∃ (F : Hp) (δ : Env) (P : List D → Env → Prop) (X : DX → Prop), Stt A F H σ δ ∧ g δ P X ∧
  (∀ ds δ' F' H' J, P ds δ' → Stt A F' H' σ δ' → Fr σ δ F H σ δ' F' H' → ItOk A J ds F' → R J H') ∧
  (∀ x F' H' cls d, X x → ErAt A σ δ F H x F' H' cls d → E cls d H')
theorem pi_weak {X : Cx} {tg e : Expr} {t t' : TI} (h : PI X tg e t) (i : ∀ σ H R, t' σ H R → t σ H R) : PI X tg e t' := ⟨fun pins s σ H R I q => h.run pins s σ H R I (i _ _ _ q)⟩
def isKy : D → Bool
  | .int _ => true
  | .str _ => true
  | _ => false
def itms : D → Option (List D)
  | .lst ds => some ds
  | .tup ds => some ds
  | .scr ns => some (ns.map D.int)
  | .dct kvs => if kvs.all (fun kv => isKy kv.1) then some (kvs.map (·.1)) else none
  | .str s => some (s.cps.toList.map fun c => .str ⟨#[c]⟩)
  | _ => none
def iE (g : GE) : GI := fun δ P X => g δ (fun r δ' => vw r fun d => match itms d with | some ds => P ds δ' | none => False) X
def rgD (lo : Int) : Nat → List D
  | 0 => []
  | n + 1 => .int lo :: rgD (lo + 1) n
def iR1 (gs : GA) : GI := fun δ P X => gs δ (fun hs δ' => rsls hs δ' fun ds => match ds with | [.int j] => (-1000000000 ≤ j ∧ j ≤ 1000000000) ∧ P (rgD 0 j.toNat) δ' | _ => False) X
def iR2 (gs : GA) : GI := fun δ P X => gs δ (fun hs δ' => rsls hs δ' fun ds => match ds with | [.int i, .int j] => -1000000000 ≤ i ∧ i ≤ 1000000000 ∧ (-1000000000 ≤ j ∧ j ≤ 1000000000) ∧ P (rgD i (j - i).toNat) δ' | _ => False) X
section
variable {A : Am} {F F' H H' : Hp} {v : V}
theorem rgD_len (n : Nat) : ∀ lo, (rgD lo n).length = n := by
  induction n with
  | zero => exact fun _ => rfl
  | succ n ih => exact fun lo => by simp [rgD, ih]
theorem rgD_get (n : Nat) : ∀ (lo : Int) (i : Nat), i < n → (rgD lo n)[i]? = some (.int (lo + i)) := by
  induction n with
  | zero => exact fun _ _ h => absurd h (Nat.not_lt_zero _)
  | succ n ih =>
    intro lo i h
    cases i with
    | zero => simp [rgD]
    | succ i =>
      rw [rgD, List.getElem?_cons_succ, ih (lo + 1) i (by omega)]
      congr 2
      omega
theorem Reps.getV {ds : List D} {vs : List V} (h : Reps A F ds vs) : ∀ {i : Nat} {v : V}, vs[i]? = some v → ∃ d, ds[i]? = some d ∧ Rep A F d v := by
  induction ds generalizing vs with
  | nil => cases h; intro i v e; simp at e
  | cons d ds ih =>
    cases h with
    | cons h hs =>
      intro i v e
      cases i with
      | zero => simp at e; subst e; exact ⟨d, by simp, h⟩
      | succ i => simp at e; simpa using ih hs e
theorem itok_list {K : PySem.W.Frag} {a : Addr} {ds : List D} {xs : List V} (h : F a = some (.lst xs)) (r : Reps A F ds xs) : ItOk A (Itl K a) ds F where
  go := fun i F1 H1 hi e s => by
    have : SqL K H1 a xs := sq_of (s _ _ (e.keep h nolk_l))
    exact ⟨xs, _, this, List.getElem?_eq_getElem (by rw [← r.length]; exact hi)⟩
  yld := fun i F1 H1 x H2 hi e s y => by
    obtain ⟨rfl, y⟩ := y
    have hx := y xs (sq_of (s _ _ (e.keep h nolk_l)))
    obtain ⟨d, hd, hr⟩ := r.getV hx
    exact ⟨F1, d, hd, new_fz s (hr.mono e)⟩
  stop := fun i F1 H1 hi e s => ⟨xs, sq_of (s _ _ (e.keep h nolk_l)), by rw [hi, r.length]; exact Nat.le_refl _⟩
theorem itok_scr {K : PySem.W.Frag} {a : Addr} {ns : List Int} (hK : A.K = K) (h : SqL A.K F a (ns.map V.int)) : ItOk A (Itl K a) (ns.map D.int) F where
  go := fun i F1 H1 hi e s => by
    rw [List.length_map] at hi
    exact ⟨_, _, hK ▸ ex_l s (e.l h), by rw [List.getElem?_map, List.getElem?_eq_getElem hi]; rfl⟩
  yld := fun i F1 H1 x H2 hi e s y => by
    obtain ⟨rfl, y⟩ := y
    have := y _ (hK ▸ ex_l s (e.l h))
    rw [List.getElem?_map] at this
    cases hn : ns[i]? with
    | none => rw [hn] at this; cases this
    | some n =>
      rw [hn] at this
      cases this
      exact ⟨F1, .int n, by rw [List.getElem?_map, hn]; rfl, new_fz s (.int n)⟩
  stop := fun i F1 H1 hi e s => ⟨_, hK ▸ ex_l s (e.l h), by rw [hi]; simp⟩
theorem itok_tup {a : Addr} {ds : List D} {xs : List V} (h : SqT A.K F a xs) (r : Reps A F ds xs) : ItOk A (Itt A.K a) ds F where
  go := fun i F1 H1 hi e s => ⟨xs, _, ex_t s (e.t h), List.getElem?_eq_getElem (by rw [← r.length]; exact hi)⟩
  yld := fun i F1 H1 x H2 hi e s y => by
    obtain ⟨rfl, y⟩ := y
    obtain ⟨d, hd, hr⟩ := r.getV (y xs (ex_t s (e.t h)))
    exact ⟨F1, d, hd, new_fz s (hr.mono e)⟩
  stop := fun i F1 H1 hi e s => ⟨xs, ex_t s (e.t h), by rw [hi, r.length]; exact Nat.le_refl _⟩
theorem itok_rng {lo : Int} {n : Nat} : ItOk A (Itr lo n) (rgD lo n) F where
  go := fun i F1 H1 hi e s => by rw [rgD_len] at hi; exact hi
  yld := fun i F1 H1 x H2 hi e s y => by
    obtain ⟨rfl, rfl⟩ := y
    rw [rgD_len] at hi
    exact ⟨F1, _, rgD_get n lo i hi, new_fz s (.int _)⟩
  stop := fun i F1 H1 hi e s => by rw [hi, rgD_len]; exact Nat.le_refl _
theorem itok_str {x : Str} : ItOk A (Its x) (x.cps.toList.map fun c => .str ⟨#[c]⟩) F where
  go := fun i F1 H1 hi e s => by show i < _; simpa using hi
  yld := fun i F1 H1 y H2 hi e s q => by
    obtain ⟨rfl, c, hc, rfl⟩ := q
    exact ⟨F1, .str ⟨#[c]⟩, by simp [List.getElem?_map, hc], new_fz s (.str _)⟩
  stop := fun i F1 H1 hi e s => by rw [hi]; show _ ≤ _; simp
theorem RepK.keys {ds : List (D × D)} {vs : List (Key × V)} (h : RepK A F ds vs) : ds.map (·.1) = vs.map fun kv => kD kv.1 := by
  induction vs generalizing ds with
  | nil => cases h; rfl
  | cons v vs ih => cases h with | cons _ h => simp [ih h]
theorem rep_kD (k : Key) : Rep A F (kD k) (kV k) := by
  cases k with
  | inl i => exact .int i
  | inr s => exact .str s
theorem itok_keys {a : Addr} {o : Obj} {ds : List (D × D)} {vs : List (Key × V)} (h : F a = some (.frz o (.dK vs))) (r : RepK A F ds vs) : ItOk A (Itk a o vs) (ds.map (·.1)) F where
  go := fun i F1 H1 hi e s => ⟨s _ _ (e.keep h fun z => by rcases z with ⟨_, z⟩ | ⟨_, z⟩ <;> cases z), by rw [r.keys] at hi; simpa using hi⟩
  yld := fun i F1 H1 x H2 hi e s y => by
    obtain ⟨rfl, k, w, hk, rfl⟩ := y
    refine ⟨F1, kD k, ?_, new_fz s (rep_kD k)⟩
    rw [r.keys, List.getElem?_map, hk]
    rfl
  stop := fun i F1 H1 hi e s => ⟨s _ _ (e.keep h fun z => by rcases z with ⟨_, z⟩ | ⟨_, z⟩ <;> cases z), by rw [hi, r.keys]; simp⟩
end
/-- a dict is locked -/
theorem Stt.lock {A : Am} {F H : Hp} {σ : L2.St} {δ : Env} {a : Addr} {u : HO} (S : Stt A F H σ δ) (ha : F a = some u) (lk : Lk u) (od : Obj) :
    Stt A (upd F a (.frz od u)) (upd H a (.frz od u)) σ δ ∧ Fr σ δ F H σ δ (upd F a (.frz od u)) (upd H a (.frz od u)) := by
  have hH : H a = some u := S.sub _ _ ha
  have hnt : ∀ ps, u ≠ .tbl ps := fun ps z => by subst z; rcases lk with ⟨_, z⟩ | ⟨_, z⟩ <;> cases z
  have up : Le F (upd F a (.frz od u)) := fun b o h => by
    by_cases hb : b = a
    · subst hb; rw [ha] at h; cases h; exact .inr ⟨lk, od, upd_same⟩
    · rw [upd_ne hb]; exact .inl h
  have hne : ∀ {b}, F b = none → b ≠ a := fun {b} h z => by subst z; rw [ha] at h; cases h
  have ownk : ∀ (i : Nat) (o : Ow) (c : Addr), δ[i]? = some (some (.ow o)) → σ[i]? = some (some (.ref c)) → OwAt A (upd F a (.frz od u)) (upd H a (.frz od u)) o c ∧ (∀ b, Ft (upd H a (.frz od u)) o c b ↔ Ft H o c b) ∧ ∀ b, Ft H o c b → F b = none := fun i o c h1 h2 => by
    obtain ⟨w, e, c', e1, h, h3⟩ := S.sl i _ h1
    rw [h2] at e; cases e; cases e1
    obtain ⟨q1, q2⟩ := h.keep (H' := upd H a (.frz od u)) up fun b hb => upd_ne (hne (h3 b hb))
    exact ⟨q1, q2, h3⟩
  have own_iff : ∀ b, Own σ δ (upd H a (.frz od u)) b → Own σ δ H b := fun b ⟨i, o, c, h1, h2, h3⟩ => ⟨i, o, c, h1, h2, ((ownk i o c h1 h2).2.1 b).mp h3⟩
  refine ⟨⟨fun b o h => ?_, ?_, fun b ps h => ?_, S.len, fun i s h => ?_, fun i j o o' c c' b h1 h2 h3 h4 h5 h6 => ?_⟩, up, fun b o h hf n no => ?_, fun b h => ?_, fun b h => .inl (own_iff b h), fun _ h => ⟨h, rfl⟩⟩
  · by_cases hb : b = a
    · subst hb; rw [upd_same] at h ⊢; exact h
    · rw [upd_ne hb] at h ⊢; exact S.sub _ _ h
  · intro p hp
    obtain ⟨ps, h1, h2, h3⟩ := S.tab p hp
    have hn : ∀ {b : Addr} {o : HO}, H b = some o → ¬ Lk o → upd H a (.frz od u) b = some o := fun {b o} h n => by
      by_cases hb : b = a
      · subst hb; rw [hH] at h; cases h; exact (n lk).elim
      · rw [upd_ne hb]; exact h
    refine ⟨ps, hn h1 (fun z => by rcases z with ⟨_, z⟩ | ⟨_, z⟩ <;> cases z), h2, fun pos cv hc => ?_⟩
    obtain ⟨c, e1, e2⟩ := h3 pos cv hc
    exact ⟨c, e1, hn e2 (fun z => by rcases z with ⟨_, z⟩ | ⟨_, z⟩ <;> cases z)⟩
  · by_cases hb : b = a
    · subst hb; rw [upd_same] at h; cases h
    · rw [upd_ne hb] at h ⊢; exact S.ftab _ _ h
  · obtain ⟨w, e, q⟩ := S.sl i s h
    refine ⟨w, e, ?_⟩
    cases s with
    | fz d => exact Rep.mono up q
    | ow o =>
      obtain ⟨c, e1, _, _⟩ := q
      subst e1
      obtain ⟨q1, q2, q3⟩ := ownk i o c h e
      refine ⟨c, rfl, q1, fun b hb => ?_⟩
      have hb' := (q2 b).mp hb
      rw [upd_ne (hne (q3 b hb'))]
      exact q3 b hb'
  · exact S.sep i j o o' c c' b h1 h2 h3 h4 (((ownk i o c h1 h2).2.1 b).mp h5) (((ownk j o' c' h3 h4).2.1 b).mp h6)
  · have hb := hne hf
    rw [upd_ne hb, upd_ne hb]
    exact ⟨h, hf⟩
  · by_cases hb : b = a
    · subst hb; exact (fre_no upd_same (fun _ z => by cases z) h).elim
    · exact fun o e => h o (by rw [upd_ne hb]; exact e)
end DL
namespace DL
open PySem L2 Evl PySem.Spec PyProof.Rows

section
variable {X : Cx} {A : Am} {E : XK} {e tg : Expr} {g : GE} {gi : GI} {gs : GA} {p pos : Pos}
theorem di_e (hK : A.K = X.K) (h : PE X e (tE A E g)) : PI X tg e (tI A E (iE g)) := by
  refine ⟨fun pins s σ H R I ⟨F, δ, P, Z, S, q, k, kx⟩ => ?_⟩
  refine thn (h.run pins s σ H (fun v H1 => ∃ F1 δ1 d ds, Stt A F1 H1 σ δ1 ∧ Fr σ δ F H σ δ1 F1 H1 ∧ Rep A F1 d v ∧ itms d = some ds ∧ P ds δ1) I ⟨F, δ, _, Z, S, q, fun r δ1 F1 H1 v q1 S1 f1 R => ?_, fun x _ _ _ _ z er => ?_⟩) fun u s1 ⟨x, H1, I1, r1, F1, δ1, d, ds, S1, f1, hr, hd, hp⟩ => ?_
  · obtain ⟨F2, dd, _, S2, f2, hr, q2⟩ := frz_tmp S1 f1 R rfl q1
    cases hi : itms dd with
    | none => rw [hi] at q2; exact q2.elim
    | some ds => rw [hi] at q2; exact ⟨F2, δ1, dd, ds, S2, f2, hr, hi, q2⟩
  · exact kx x _ _ _ _ z er
  · cases hr with
    | @lst a xs ds' h r =>
      cases hd
      cases r1
      obtain ⟨its, rv, p, hz⟩ := I1.list (sq_of (K := X.K) (S1.sub _ _ h))
      refine wpAny_pyIter_list p.isList ?_
      exact pi_one (tk := s1.toks) I1 _ (turn_list (K := X.K) a _) ⟨_, Heap.get?_push_size _ rfl, rfl, rfl⟩ (k _ _ _ _ _ hp S1 f1 (itok_list h r))
    | @scr a ns h =>
      cases hd
      cases r1
      obtain ⟨its, rv, p, hz⟩ := I1.list (hK ▸ ex_l S1.sub h)
      refine wpAny_pyIter_list p.isList ?_
      exact pi_one (tk := s1.toks) I1 _ (turn_list (K := X.K) a _) ⟨_, Heap.get?_push_size _ rfl, rfl, rfl⟩ (k _ _ _ _ _ hp S1 f1 (itok_scr hK h))
    | @tup a xs ds' h r =>
      cases hd
      cases r1
      rw [hK] at h
      obtain ⟨its, rv, p, hz⟩ := I1.tuple (ex_t S1.sub h)
      refine wpAny_pyIter_tuple (show s1.heap.IsTuple a its.toArray from p) ?_
      exact pi_one (tk := s1.toks) I1 _ (turn_tuple (K := X.K) a _) ⟨_, Heap.get?_push_size _ rfl, rfl, rfl⟩ (k _ _ _ _ _ hp S1 f1 (by rw [← hK]; exact itok_tup (by rw [hK]; exact h) r))
    | str y =>
      cases hd
      obtain ⟨t, rfl⟩ := r1
      cases ha : y.cps.all (· < 128)
      · exact wpAny_pyIter_wide ha (pi_one (tk := s1.toks) I1 _ (turn_str _ y t "str_iterator" (.inr rfl)) ⟨_, Heap.get?_push_size _ rfl, rfl, rfl⟩ (k _ _ _ _ _ hp S1 f1 itok_str))
      · exact wpAny_pyIter_ascii ha (pi_one (tk := s1.toks) I1 _ (turn_str _ y t "str_ascii_iterator" (.inl rfl)) ⟨_, Heap.get?_push_size _ rfl, rfl, rfl⟩ (k _ _ _ _ _ hp S1 f1 itok_str))
    | @dctK a kvs ds' h r =>
      cases r1
      have hds : ds = ds'.map (·.1) := by
        unfold itms at hd
        simp only at hd
        split at hd
        · exact (Option.some.inj hd).symm
        · cases hd
      subst hds
      rcases h with h | ⟨od, h⟩
      · obtain ⟨od, I2⟩ := I1.lock (S1.sub _ _ h) trivial
        obtain ⟨S2, f2⟩ := S1.lock h (.inl ⟨_, rfl⟩) od
        obtain ⟨hs, hgd, hx, es, ep, vs, hdt, hsz, kv, hm⟩ := I2.frzK upd_same
        refine iter_keys hs hgd hx hdt (pi_one (tk := s1.toks) I2 _ (turn_keys _ hdt) ⟨_, Heap.get?_push_size _ rfl, rfl, ?_⟩ (k _ _ _ _ _ hp S2 (f1.trans f2) (itok_keys upd_same (r.mono f2.up))))
        rw [hsz] <;> rfl
      · obtain ⟨hs, hgd, hx, es, ep, vs, hdt, hsz, kv, hm⟩ := I1.frzK (S1.sub _ _ h)
        refine iter_keys hs hgd hx hdt (pi_one (tk := s1.toks) I1 _ (turn_keys _ hdt) ⟨_, Heap.get?_push_size _ rfl, rfl, ?_⟩ (k _ _ _ _ _ hp S1 f1 (itok_keys h r)))
        rw [hsz] <;> rfl
    | _ => cases hd
theorem di_r1 {a : Expr} (hg : Gl X "range") (hm : X.mg "range" = none) (ha : PA X [a] (tAr A E gs)) (hs : starEach [a] X.env = [(false, eval a X.env)] := by rfl) : PI X tg (.Call (.Name "range" p) [a] [] pos) (tI A E (iR1 gs)) :=
  pi_weak (pi_range1 hg hm ha hs) fun σ H R ⟨F, δ, P, Z, S, q, k, kx⟩ => ⟨F, δ, _, Z, S, q, fun hs δ1 F1 H1 vs q1 S1 f1 h1 => by
    obtain ⟨ds, r1, q2⟩ := rsls_at S1 h1 q1
    split at q2
    · rename_i j
      cases r1 with
      | cons r r' =>
        cases r'
        cases arg_int r
        refine ⟨j, rfl, ?_, ?_, k _ _ _ _ _ q2.2 S1 f1 itok_rng⟩
        · have := q2.1.1; omega
        · have := q2.1.2; omega
    · exact q2.elim, kx⟩
theorem di_r2 {a b : Expr} (hg : Gl X "range") (hm : X.mg "range" = none) (ha : PA X [a, b] (tAr A E gs)) (hs : starEach [a, b] X.env = [(false, eval a X.env), (false, eval b X.env)] := by rfl) (hs2 : starEach [b] X.env = [(false, eval b X.env)] := by rfl) : PI X tg (.Call (.Name "range" p) [a, b] [] pos) (tI A E (iR2 gs)) :=
  pi_weak (pi_range2 hg hm ha hs hs2) fun σ H R ⟨F, δ, P, Z, S, q, k, kx⟩ => ⟨F, δ, _, Z, S, q, fun hs δ1 F1 H1 vs q1 S1 f1 h1 => by
    obtain ⟨ds, r1, q2⟩ := rsls_at S1 h1 q1
    split at q2
    · rename_i i j
      obtain ⟨z1, z2, z3, q2⟩ := q2
      cases r1 with
      | cons r r' =>
        cases r' with
        | cons r2 r' =>
          cases r'
          cases arg_int r
          cases arg_int r2
          refine ⟨i, j, rfl, ⟨by omega, by omega, by have := z3.1; omega, by have := z3.2; omega⟩, k _ _ _ _ _ q2 S1 f1 itok_rng⟩
    · exact q2.elim, kx⟩
end

/-! ### targets -/
abbrev GG := D → Env → (Env → Prop) → Prop
abbrev GGs := List D → Env → (Env → Prop) → Prop
def gNm (i : Nat) : GG := fun d δ k => notPen δ i ∧ k (δ.set i (some (.fz d)))
def ggNil : GGs := fun ds δ k => match ds with | [] => k δ | _ => False
def ggCons (g : GG) (gs : GGs) : GGs := fun ds δ k => match ds with | d :: ds => g d δ fun δ1 => gs ds δ1 k | _ => False
def gTp (n : Nat) (gs : GGs) : GG := fun d δ k => match d with | .tup ds => ds.length = n ∧ gs ds δ k | _ => False
def tG (A : Am) (vs : List Nat) (g : GG) : TG := fun v σ H Q => ∃ (F : Hp) (δ : Env) (d : D) (k : Env → Prop), Stt A F H σ δ ∧ Rep A F d v ∧ g d δ k ∧ ∀ δ' σ', k δ' → Stt A F H σ' δ' → Fr σ δ F H σ' δ' F H → wipe σ' vs = wipe σ vs → Q σ' H
def tGs (A : Am) (ws : List Nat) (g : GGs) : TGs := fun vs σ H Q => ∃ (F : Hp) (δ : Env) (ds : List D) (k : Env → Prop), Stt A F H σ δ ∧ Reps A F ds vs ∧ g ds δ k ∧ ∀ δ' σ', k δ' → Stt A F H σ' δ' → Fr σ δ F H σ' δ' F H → wipe σ' ws = wipe σ ws → Q σ' H
theorem wipe_set (σ : L2.St) (i : Nat) (x : Option V) : ∀ vs : List Nat, wipe (σ.set i x) vs = if i ∈ vs then wipe σ vs else (wipe σ vs).set i x
  | [] => by simp [wipe]
  | v :: vs => by
    unfold wipe
    rw [wipe_set σ i x vs]
    by_cases hv : i = v
    · subst hv
      by_cases hi : i ∈ vs
      · simp [hi]
      · simp [hi, List.set_set]
    · by_cases hi : i ∈ vs
      · simp [hi]
      · simp [hi, hv, List.set_comm _ _ hv]
section
variable {X : Cx} {A : Am} {E : XK} {e tg : Expr} {es : List Expr} {g : GG} {gs : GGs} {p pos : Pos} {ge : GE} {vs : List Nat}
theorem pg_weak {t t' : TG} (h : PG X e t) (i : ∀ v σ H Q, t' v σ H Q → t v σ H Q) : PG X e t' := ⟨fun pins s σ H v u Q I r q => h.run pins s σ H v u Q I r (i _ _ _ _ q)⟩
theorem pgs_weak {t t' : TGs} (h : PGs X es t) (i : ∀ v σ H Q, t' v σ H Q → t v σ H Q) : PGs X es t' := ⟨fun pins s σ H v u Q I r q => h.run pins s σ H v u Q I r (i _ _ _ _ q)⟩
theorem dg_name {i : Nat} {x : Str} (hv : i ∈ vs) (hN : X.N.Nodup) (hi : X.N[i]? = some x) (hx : Loc X.env.scope x) (hf : X.fn x = true ∨ X.env.scope.names.lookup x = some .local := by first | exact .inl rfl | exact .inr rfl | assumption) : PG X (.Name x pos) (tG A vs (gNm i)) :=
  pg_weak (pg_name hN hi hx hf) fun v σ H Q ⟨F, δ, d, k, S, r, q, kk⟩ => by
    obtain ⟨S2, f2⟩ := S.put (r := .fz d) (v := v) Fr.refl r q.1
    exact kk _ _ q.2 S2 f2 (by rw [wipe_set, if_pos hv])
theorem dgs_nil : PGs X [] (tGs A vs ggNil) := pgs_weak pgs_nil fun vs σ H Q ⟨F, δ, ds, k, S, r, q, kk⟩ => by
  cases ds with
  | nil => cases r; exact ⟨rfl, kk _ _ q S Fr.refl rfl⟩
  | cons d ds => exact (q : False).elim
theorem dgs_cons (h1 : PG X e (tG A vs g)) (h2 : PGs X es (tGs A vs gs)) (hs : (assignEach (e :: es) X.env).map (·.2) = assign e X.env :: (assignEach es X.env).map (·.2) := by rfl) : PGs X (e :: es) (tGs A vs (ggCons g gs)) :=
  pgs_weak (pgs_cons h1 h2 hs) fun ws σ H Q ⟨F, δ, ds, k, S, r, q, kk⟩ => by
    cases ds with
    | nil => exact (q : False).elim
    | cons d ds =>
      cases r with
      | cons r rs => exact ⟨_, _, rfl, F, δ, d, _, S, r, q, fun δ1 σ1 q1 S1 f1 w1 => ⟨F, δ1, ds, k, S1, rs, q1, fun δ2 σ2 q2 S2 f2 w2 => kk _ _ q2 S2 (f1.trans f2) (w2.trans w1)⟩⟩
theorem dg_tup {kt n : Nat} (hK : A.K = X.K) (hc : X.calm = true) (h : PGs X es (tGs A vs gs)) (hn : (assignEach es X.env).length = n := by rfl) (hst : (assignEach es X.env).findIdx? (·.1) = none := by rfl) : PG X (.Tuple es kt pos) (tG A vs (gTp n gs)) :=
  pg_weak (pg_tup hc h hn hst) fun v σ H Q ⟨F, δ, d, k, S, r, q, kk⟩ => by
    cases d with
    | tup ds =>
      cases r with
      | tup h r => exact ⟨_, _, rfl, hK ▸ ex_t S.sub h, by rw [← r.length]; exact q.1, F, δ, ds, k, S, r, q.2, kk⟩
    | _ => exact (q : False).elim
/-- a pattern takes a value -/
def sAsg (g : GG) (ge : GE) : GS := fun δ B => ge δ (fun r δ' => vw r fun d => g d δ' B.nx) B.ex
theorem ds_asg (h : PE X e (tE A E ge)) (hg : PG X tg (tG A vs g)) (hs : swapsWithSole [tg] e pos.line X.env = pure false := by rfl) (hw : swappedStores [tg] e X.env = pure none := by rfl)
    (h1 : (assignEach [tg] X.env).map (·.2) = [assign tg X.env] := by rfl) : PS X (.Assign [tg] e pos) (tS A E (sAsg g ge)) :=
  ps_weak (ps_asg h hg hs hw h1) fun D σ H ⟨F, δ, B, S, q, kn, kb, kc, kr, kx⟩ => ⟨F, δ, _, _, S, q, fun r δ1 F1 H1 v q1 S1 f1 R => by
    obtain ⟨F2, dd, _, S2, f2, hr, q2⟩ := frz_tmp S1 f1 R rfl q1
    exact ⟨F2, δ1, dd, _, S2, hr, q2, fun δ3 σ3 q3 S3 f3 _ => kn _ _ _ _ q3 S3 (f2.trans f3)⟩, kx⟩
end

/-! ### for -/
def forD (gt : GG) (gb : GS) : List D → Env → EndsD → Prop
  | [], δ, B => B.nx δ
  | d :: ds, δ, B => gt d δ fun δ1 => gb δ1 { B with nx := fun δ' => forD gt gb ds δ' B, ct := fun δ' => forD gt gb ds δ' B, bk := B.nx }
def sFor (gi : GI) (gt : GG) (gb : GS) : GS := fun δ B => gi δ (fun ds δ1 => forD gt gb ds δ1 B) B.ex
theorem ds_for {X : Cx} {A : Am} {E : XK} {tg iter : Expr} {body : List Stmt} {gi : GI} {gt : GG} {gb : GS} {pos : Pos} {vs : List Nat} (hp : PassesOwn (model X.prog X.w) X.A X.env X.xe) (hc : X.calm = true) (hi : PI X tg iter (tI A E gi)) (hg : PG X tg (tG A vs gt)) (hb : PSs X body (tS A E gb))
    (hs : ∀ x, foldedSetIterable iter X.env x = pure x := by intro _; rfl) : PS X (.For tg iter body [] pos) (tS A E (sFor gi gt gb)) :=
  ps_weak (ps_for hp hc hi hg hb hs) fun D σ H ⟨F, δ, B, S, q, kn, kb, kc, kr, kx⟩ => ⟨F, δ, _, _, S, q, fun ds δ1 F1 H1 J q1 S1 f1 ok => by
    refine ⟨fun i m σ' H' => m = ds.length - i ∧ i ≤ ds.length ∧ ∃ F' δ', forD gt gb (ds.drop i) δ' B ∧ Stt A F' H' σ' δ' ∧ Fr σ δ F H σ' δ' F' H' ∧ Le F1 F', ⟨ds.length, by simp, Nat.zero_le _, F1, δ1, q1, S1, f1, Le.refl _⟩, ?_⟩
    rintro i m σ2 H2 ⟨rfl, hi, F2, δ2, q2, S2, f2, le2⟩
    by_cases hlt : i < ds.length
    · refine .inr ⟨ok.go i F2 H2 hlt le2 S2.sub, fun σ' H' => i + 1 ≤ ds.length ∧ ∃ F' δ', forD gt gb (ds.drop (i + 1)) δ' B ∧ Stt A F' H' σ' δ' ∧ Fr σ δ F H σ' δ' F' H' ∧ Le F1 F', fun σ' H' z => ⟨ds.length - (i + 1), by omega, rfl, z.1, z.2⟩, fun x H3 y => ?_⟩
      obtain ⟨F3, d, hd, n⟩ := ok.yld i F2 H2 x H3 hlt le2 S2.sub y
      obtain ⟨S3, f3, R⟩ := n.stt S2
      have hdr : ds.drop i = d :: ds.drop (i + 1) := by
        rw [List.drop_eq_getElem_cons hlt]
        rw [List.getElem?_eq_getElem hlt] at hd
        rw [Option.some.inj hd]
      rw [hdr] at q2
      have f23 := f2.trans f3
      refine ⟨F3, δ2, d, _, S3, R, q2, fun δ4 σ4 q4 S4 f4 _ => ?_⟩
      have f24 := f23.trans f4
      have le4 : Le F1 F3 := le2.trans f3.up
      exact ⟨F3, δ4, _, S4, q4, fun δ5 F5 H5 σ5 z S5 f5 => ⟨hlt, F5, δ5, z, S5, f24.trans f5, le4.trans f5.up⟩, fun δ5 F5 H5 σ5 z S5 f5 => kn _ _ _ _ z S5 (f24.trans f5), fun δ5 F5 H5 σ5 z S5 f5 => ⟨hlt, F5, δ5, z, S5, f24.trans f5, le4.trans f5.up⟩,
        fun r δ5 F5 H5 σ5 v z S5 f5 R => kr _ _ _ _ _ _ z S5 (f24.trans f5) (R.back f24), fun x _ _ _ _ z er => kx x _ _ _ _ z (er.back' f24)⟩
    · have e : i = ds.length := by omega
      subst e
      rw [List.drop_length] at q2
      exact .inl ⟨ok.stop _ F2 H2 rfl le2 S2.sub, kn _ _ _ _ q2 S2 f2⟩, kx⟩
end DL
namespace DL
open PySem L2 Evl PySem.Spec PyProof.Rows

def EF : XK := fun _ _ _ => False
def noX : DX → Prop := fun _ => False
def wipeD (δ : Env) : List Nat → Env
  | [] => δ
  | v :: vs => (wipeD δ vs).set v none
def npOk (δ : Env) : List Nat → Prop
  | [] => True
  | v :: vs => notPen δ v ∧ npOk δ vs
section
variable {A : Am} {F F' F'' H H' H'' : Hp} {σ σ' σ'' : L2.St} {δ δ' δ'' : Env} {v : V} {vs : List Nat}
theorem Stt.drop2 (S : Stt A F H σ δ) {i : Nat} (np : notPen δ i) : Stt A F H (σ.set i none) (δ.set i none) ∧ Fr σ δ F H (σ.set i none) (δ.set i none) F H := by
  have hl := S.len
  have cse : ∀ {j : Nat} {s : Sl}, (δ.set i none)[j]? = some (some s) → j ≠ i ∧ δ[j]? = some (some s) ∧ (σ.set i none)[j]? = σ[j]? := fun {j s} h => by
    by_cases hj : j = i
    · subst hj
      rw [List.getElem?_set, if_pos rfl] at h
      split at h <;> cases h
    · rw [List.getElem?_set_ne (Ne.symm hj)] at h
      exact ⟨hj, h, List.getElem?_set_ne (Ne.symm hj)⟩
  refine ⟨⟨S.sub, S.tab, S.ftab, by simp [hl], fun j s h => ?_, fun j k o o' a a' b h1 h2 h3 h4 h5 h6 => ?_⟩, Le.refl F, fun _ _ z zf _ _ => ⟨z, zf⟩, fun _ z => z, fun b ⟨j, o, a, h1, h2, h3⟩ => ?_, fun j z => ?_⟩
  · obtain ⟨_, h1, h2⟩ := cse h
    rw [h2]; exact S.sl j s h1
  · obtain ⟨_, q1, q2⟩ := cse h1
    obtain ⟨_, q3, q4⟩ := cse h3
    rw [q2] at h2; rw [q4] at h4
    exact S.sep j k o o' a a' b q1 h2 q3 h4 h5 h6
  · obtain ⟨_, q1, q2⟩ := cse h1
    exact .inl ⟨j, o, a, q1, q2 ▸ h2, h3⟩
  · have hj : j ≠ i := fun e => by subst e; exact notPen_ne np z
    rw [List.getElem?_set_ne (Ne.symm hj), List.getElem?_set_ne (Ne.symm hj)]
    exact ⟨z, rfl⟩
theorem wipeD_np {i : Nat} (h : notPen δ i) : ∀ vs, notPen (wipeD δ vs) i
  | [] => h
  | v :: vs => by
    unfold wipeD
    have := wipeD_np h vs
    unfold notPen at this ⊢
    by_cases hv : v = i
    · subst hv
      rw [List.getElem?_set, if_pos rfl]
      split <;> simp_all
    · rw [List.getElem?_set_ne hv]; exact this
theorem wipeD_none {i : Nat} : ∀ {vs : List Nat}, i ∈ vs → ∀ s, (wipeD δ vs)[i]? ≠ some (some s)
  | v :: vs, h, s => by
    unfold wipeD
    by_cases hv : v = i
    · subst hv
      rw [List.getElem?_set, if_pos rfl]
      split <;> simp
    · rw [List.getElem?_set_ne hv]
      rcases List.mem_cons.mp h with e | e
      · exact (hv e.symm).elim
      · exact wipeD_none e s
theorem wipe_ne {i : Nat} : ∀ {vs : List Nat}, i ∉ vs → (wipe σ vs)[i]? = σ[i]?
  | [], _ => rfl
  | v :: vs, h => by
    unfold wipe
    rw [List.getElem?_set_ne (fun z => h (by rw [z]; exact List.mem_cons_self))]
    exact wipe_ne fun z => h (List.mem_cons_of_mem _ z)
theorem Stt.wipe (S : Stt A F H σ δ) : ∀ {vs : List Nat}, npOk δ vs → Stt A F H (L2.wipe σ vs) (wipeD δ vs) ∧ Fr σ δ F H (L2.wipe σ vs) (wipeD δ vs) F H
  | [], _ => ⟨S, Fr.refl⟩
  | v :: vs, np => by
    obtain ⟨S1, f1⟩ := Stt.wipe S np.2
    obtain ⟨S2, f2⟩ := S1.drop2 (wipeD_np np.1 vs)
    exact ⟨S2, f1.trans f2⟩
theorem Stt.unwipe (S : Stt A F' H' (L2.wipe σ vs) δ') (f : Fr σ δ F H (L2.wipe σ vs) δ' F' H') (hn : ∀ i ∈ vs, ∀ s, δ'[i]? ≠ some (some s)) : Stt A F' H' σ δ' ∧ Fr σ δ F H σ δ' F' H' := by
  have e : ∀ {i : Nat} {s : Sl}, δ'[i]? = some (some s) → (L2.wipe σ vs)[i]? = σ[i]? := fun {i s} h => wipe_ne fun z => hn i z s h
  refine ⟨⟨S.sub, S.tab, S.ftab, by rw [← S.len, wipe_length], fun j s h => by rw [← e h]; exact S.sl j s h, fun j k o o' a a' b h1 h2 h3 h4 => ?_⟩, f.up, f.keep, f.there, fun b ⟨j, o, a, h1, h2, h3⟩ => f.own b ⟨j, o, a, h1, (e h1) ▸ h2, h3⟩, fun j z => ?_⟩
  · rw [← e h1] at h2; rw [← e h3] at h4
    exact S.sep j k o o' a a' b h1 h2 h3 h4
  · obtain ⟨z1, z2⟩ := f.pen j z
    exact ⟨z1, rfl⟩
/-- a list that no name has -/
def TmpAt (A : Am) (F H : Hp) (σ : L2.St) (δ : Env) (D : Addr) (ys : List DL.D) : Prop := (∃ acc, H D = some (.lst acc) ∧ Reps A F ys acc) ∧ F D = none ∧ ¬ Own σ δ H D
theorem Stt.tmp (S : Stt A F H σ δ) {D : Addr} {acc acc' : List V} (hD : H D = some (.lst acc)) (fD : F D = none) (no : ¬ Own σ δ H D) : Stt A F (upd H D (.lst acc')) σ δ ∧ ∀ b, Own σ δ (upd H D (.lst acc')) b → Own σ δ H b := by
  have ownk : ∀ (i : Nat) (o : Ow) (c : Addr), δ[i]? = some (some (.ow o)) → σ[i]? = some (some (.ref c)) → OwAt A F (upd H D (.lst acc')) o c ∧ (∀ b, Ft (upd H D (.lst acc')) o c b ↔ Ft H o c b) ∧ ∀ b, Ft H o c b → F b = none := fun i o c h1 h2 => by
    obtain ⟨w, e, c', e1, h, h3⟩ := S.sl i _ h1
    rw [h2] at e; cases e; cases e1
    obtain ⟨q1, q2⟩ := h.keep (H' := upd H D (.lst acc')) (Le.refl F) fun b hb => upd_ne fun z => no (by subst z; exact ⟨i, o, c, h1, h2, hb⟩)
    exact ⟨q1, q2, h3⟩
  have own_iff : ∀ b, Own σ δ (upd H D (.lst acc')) b → Own σ δ H b := fun b ⟨i, o, c, h1, h2, h3⟩ => ⟨i, o, c, h1, h2, ((ownk i o c h1 h2).2.1 b).mp h3⟩
  refine ⟨⟨fun b o h => ?_, ?_, fun b ps h => ?_, S.len, fun i s h => ?_, fun i j o o' c c' b h1 h2 h3 h4 h5 h6 => ?_⟩, own_iff⟩
  · rw [upd_ne fun z => by subst z; rw [fD] at h; cases h]; exact S.sub _ _ h
  · intro p hp
    obtain ⟨ps, h1, h2, h3⟩ := S.tab p hp
    have hn : ∀ {b : Addr} {o : HO}, H b = some o → (∀ xs, o ≠ .lst xs) → upd H D (.lst acc') b = some o := fun {b o} h n => by
      by_cases hb : b = D
      · subst hb; rw [hD] at h; cases h; exact (n _ rfl).elim
      · rw [upd_ne hb]; exact h
    refine ⟨ps, hn h1 (fun _ z => by cases z), h2, fun pos cv hc => ?_⟩
    obtain ⟨c, e1, e2⟩ := h3 pos cv hc
    exact ⟨c, e1, hn e2 (fun _ z => by cases z)⟩
  · by_cases hb : b = D
    · subst hb; rw [upd_same] at h; cases h
    · rw [upd_ne hb] at h; exact S.ftab _ _ h
  · obtain ⟨w, e, q⟩ := S.sl i s h
    refine ⟨w, e, ?_⟩
    cases s with
    | fz d => exact q
    | ow o =>
      obtain ⟨c, e1, _, h3⟩ := q
      subst e1
      obtain ⟨q1, q2, _⟩ := ownk i o c h e
      exact ⟨c, rfl, q1, fun b hb => h3 b ((q2 b).mp hb)⟩
  · exact S.sep i j o o' c c' b h1 h2 h3 h4 (((ownk i o c h1 h2).2.1 b).mp h5) (((ownk j o' c' h3 h4).2.1 b).mp h6)
theorem Fr.tmp {D : Addr} {acc' : List V} (f : Fr σ δ F H σ' δ' F' H') (hD : Fre H D) (ho : ∀ b, Own σ' δ' (upd H' D (.lst acc')) b → Own σ' δ' H' b) : Fr σ δ F H σ' δ' F' (upd H' D (.lst acc')) :=
  ⟨f.up, fun a o h hf n no => by
    have : a ≠ D := fun z => by subst z; exact fre_no h n hD
    rw [upd_ne this]; exact f.keep a o h hf n no, fun a h => by
    by_cases hb : a = D
    · subst hb; exact hD
    · exact f.there a fun o e => h o (by rw [upd_ne hb]; exact e), fun b h => f.own b (ho b h), f.pen⟩
theorem TmpAt.step {D : Addr} {ys : List DL.D} (t : TmpAt A F H σ δ D ys) (f : Fr σ δ F H σ' δ' F' H') : TmpAt A F' H' σ' δ' D ys := by
  obtain ⟨⟨acc, h1, h2⟩, h3, h4⟩ := t
  obtain ⟨q1, q2⟩ := f.keep D _ h1 h3 (fun _ z => by cases z) h4
  refine ⟨⟨acc, q1, h2.mono f.up⟩, q2, fun z => ?_⟩
  rcases f.own D z with z | z
  · exact h4 z
  · exact fre_no h1 (fun _ z => by cases z) z
end

/-! ### a list comprehension -/
def lcD (gg : GG) (gt : GT) (ge : GE) (vs : List Nat) : List D → Env → (List D → Env → Prop) → Prop
  | [], δ, k => k [] δ
  | d :: ds, δ, k => gg d δ fun δ2 => gt δ2 (fun b δ3 => if b = true then ge δ3 (fun r δ4 => vw r fun y => npOk δ4 vs ∧ lcD gg gt ge vs ds (wipeD δ4 vs) fun ys δ5 => k (y :: ys) δ5) noX else npOk δ3 vs ∧ lcD gg gt ge vs ds (wipeD δ3 vs) k) noX
def eLc (gi : GI) (gg : GG) (gt : GT) (ge : GE) (vs : List Nat) : GE := fun δ P X => gi δ (fun ds δ1 => npOk δ1 vs ∧ ds.length ≤ 100000 ∧ lcD gg gt ge vs ds (wipeD δ1 vs) fun ys δ2 => P (.ow (.lst ys)) δ2) X
def tYesD : GT := fun δ P _ => P true δ
section
variable {X : Cx} {A : Am} {E : XK}
structure PTsD (X : Cx) (ifs : List Expr) (A : Am) (g : GT) : Prop where
  run : PTs X ifs (tT A EF g)
theorem dts_nil : PTsD X [] A tYesD := ⟨⟨fun pins s σ H Q I ⟨F, δ, P, Z, S, q, k, _⟩ => pts_nil.run pins s σ H Q I (k _ _ _ _ q S Fr.refl)⟩⟩
theorem dts_one {c : Expr} {g : GT} (h : PT X c (tT A EF g)) : PTsD X [c] A g := ⟨pts_one h⟩
theorem lc_weak {σ : L2.St} {H : Hp} {Q : VK} {gi : GI} {gg : GG} {gt : GT} {ge : GE} {vs : List Nat} (h : tE A E (eLc gi gg gt ge vs) σ H Q) : tLc (tI A E gi) (tG A vs gg) (tT A EF gt) (tE A EF ge) vs σ H Q := by
  obtain ⟨F, δ, P, Z, S, q, k, kx⟩ := h
  refine ⟨F, δ, _, _, S, q, fun ds δ1 F1 H1 J ⟨np, hlen, q1⟩ S1 f1 ok => ?_, kx⟩
  intro D hD
  obtain ⟨S1', f1', R1⟩ := (new_lst S1.sub hD (A := A) .nil).stt S1
  obtain ⟨a0, e0, ⟨_, e1, _⟩, hft⟩ := R1
  cases e0
  obtain ⟨fD, nD, _⟩ := hft D rfl
  obtain ⟨S2, f2⟩ := S1'.wipe np
  have T2 : TmpAt A F1 (upd H1 D (.lst [])) (wipe σ vs) (wipeD δ1 vs) D [] := TmpAt.step ⟨⟨[], upd_same, .nil⟩, fD, nD⟩ f2
  have hD0 : Fre H D := f1.there D (fre_of hD)
  refine ⟨fun i m H' => m = ds.length - i ∧ i ≤ ds.length ∧ ∃ F' δ' ys, lcD gg gt ge vs (ds.drop i) δ' (fun ys' δ2 => P (.ow (.lst (ys ++ ys'))) δ2) ∧ Stt A F' H' (wipe σ vs) δ' ∧ Fr σ δ F H (wipe σ vs) δ' F' H' ∧ Le F1 F' ∧ TmpAt A F' H' (wipe σ vs) δ' D ys ∧ ys.length ≤ i ∧ ∀ j ∈ vs, ∀ s, δ'[j]? ≠ some (some s),
    ⟨ds.length, by simp, Nat.zero_le _, F1, wipeD δ1 vs, [], by simpa using q1, S2, (f1.trans f1').trans f2, Le.refl _, T2, Nat.le_refl _, fun j hj s => wipeD_none hj s⟩, ?_⟩
  rintro i m H3 ⟨rfl, hi, F3, δ3, ys, q3, S3, f3, le3, T3, hy, nv⟩
  by_cases hlt : i < ds.length
  · refine .inr ⟨ok.go i F3 H3 hlt le3 S3.sub, fun H' => i + 1 ≤ ds.length ∧ ∃ F' δ' ys, lcD gg gt ge vs (ds.drop (i + 1)) δ' (fun ys' δ2 => P (.ow (.lst (ys ++ ys'))) δ2) ∧ Stt A F' H' (wipe σ vs) δ' ∧ Fr σ δ F H (wipe σ vs) δ' F' H' ∧ Le F1 F' ∧ TmpAt A F' H' (wipe σ vs) δ' D ys ∧ ys.length ≤ i + 1 ∧ ∀ j ∈ vs, ∀ s, δ'[j]? ≠ some (some s), fun H' z => ⟨ds.length - (i + 1), by omega, rfl, z.1, z.2⟩, fun x H4 y => ?_⟩
    obtain ⟨F4, d, hd, n⟩ := ok.yld i F3 H3 x H4 hlt le3 S3.sub y
    obtain ⟨S4, f4, R4⟩ := n.stt S3
    have hdr : ds.drop i = d :: ds.drop (i + 1) := by
      rw [List.drop_eq_getElem_cons hlt]
      rw [List.getElem?_eq_getElem hlt] at hd
      rw [Option.some.inj hd]
    rw [hdr] at q3
    have f34 := f3.trans f4
    have le4 := le3.trans f4.up
    refine ⟨F4, δ3, d, _, S4, R4, q3, fun δ5 σ5 q5 S5 f5 w5 => ⟨w5.trans (by
      have : ∀ (ws : List Nat) (τ : L2.St), wipe (wipe τ ws) ws = wipe τ ws := fun ws τ => by
        have key : ∀ us : List Nat, (∀ u ∈ us, u ∈ ws) → wipe (wipe τ us) ws = wipe τ ws := fun us => by
          induction us with
          | nil => intro _; rfl
          | cons u us ih =>
            intro hu
            show wipe ((wipe τ us).set u none) ws = _
            rw [wipe_set, if_pos (hu u List.mem_cons_self)]
            exact ih fun z hz => hu z (List.mem_cons_of_mem _ hz)
        exact key ws fun _ h => h
      exact this vs σ), ?_⟩⟩
    have w5' : wipe σ5 vs = wipe σ vs := w5.trans (by
      have : ∀ (ws : List Nat) (τ : L2.St), wipe (wipe τ ws) ws = wipe τ ws := fun ws τ => by
        have key : ∀ us : List Nat, (∀ u ∈ us, u ∈ ws) → wipe (wipe τ us) ws = wipe τ ws := fun us => by
          induction us with
          | nil => intro _; rfl
          | cons u us ih =>
            intro hu
            show wipe ((wipe τ us).set u none) ws = _
            rw [wipe_set, if_pos (hu u List.mem_cons_self)]
            exact ih fun z hz => hu z (List.mem_cons_of_mem _ hz)
        exact key ws fun _ h => h
      exact this vs σ)
    have f35 := f34.trans f5
    have T5 := (T3.step f4).step f5
    refine ⟨F4, δ5, _, noX, S5, q5, fun b δ6 F6 H6 q6 S6 f6 => ?_, fun x _ _ _ _ z _ => z.elim⟩
    have f36 := f35.trans f6
    have le6 := (le4.trans f5.up).trans f6.up
    have T6 := T5.step f6
    cases b with
    | false =>
      obtain ⟨np6, q6⟩ := q6
      obtain ⟨S7, f7⟩ := S6.wipe np6
      rw [w5'] at S7 f7
      exact ⟨hlt, F6, _, ys, q6, S7, f36.trans f7, le6.trans f7.up, T6.step f7, by omega, fun j hj s => wipeD_none hj s⟩
    | true =>
      refine ⟨F6, δ6, _, noX, S6, q6, fun r δ7 F7 H7 v7 q7 S7 f7 R7 => ?_, fun x _ _ _ _ z _ => z.elim⟩
      obtain ⟨F8, yd, _, S8, f8, hr8, np8, q8⟩ := frz_tmp S7 f7 R7 rfl q7
      have T8 := T6.step f8
      obtain ⟨⟨acc, t1, t2⟩, t3, t4⟩ := T8
      have f38 := f36.trans f8
      refine ⟨acc, t1, by rw [← t2.length]; exact sz_lt (by omega), hlt, F8, wipeD δ7 vs, ys ++ [yd], ?_, ?_⟩
      · simpa [List.append_assoc] using q8
      obtain ⟨S9, o9⟩ := S8.tmp (acc' := acc ++ [v7]) t1 t3 t4
      have f9 := f38.tmp (acc' := acc ++ [v7]) hD0 o9
      obtain ⟨S10, f10⟩ := S9.wipe np8
      have T10 : TmpAt A F8 (upd H7 D (.lst (acc ++ [v7]))) (wipe σ5 vs) (wipeD δ7 vs) D (ys ++ [yd]) := TmpAt.step ⟨⟨_, upd_same, t2.append (.cons hr8 .nil)⟩, t3, fun z => t4 (o9 _ z)⟩ f10
      rw [w5'] at S10 f10 T10
      exact ⟨S10, f9.trans f10, le6.trans f8.up, T10, by simp; omega, fun j hj s => wipeD_none hj s⟩
  · have e : i = ds.length := by omega
    subst e
    rw [List.drop_length] at q3
    obtain ⟨S4, f4⟩ := S3.unwipe f3 nv
    obtain ⟨⟨acc, t1, t2⟩, t3, t4⟩ := T3
    refine .inl ⟨ok.stop _ F3 H3 rfl le3 S3.sub, k (.ow (.lst ys)) δ3 F3 H3 (.ref D) (by simpa [lcD] using q3) S4 f4 ⟨D, rfl, ⟨acc, t1, t2⟩, fun b hb => ?_⟩⟩
    have hb' : b = D := hb
    subst hb'
    refine ⟨t3, fun ⟨j, o, a, h1, h2, h3⟩ => t4 ⟨j, o, a, h1, ?_, h3⟩, .inr hD0⟩
    rw [wipe_ne fun z => nv j z _ h1]; exact h2
theorem de_lc {elt tg iter : Expr} {ifs : List Expr} {scope : Scope} {own : List (Str × Nat)} {pos : Pos} {gi : GI} {gg : GG} {gt : GT} {ge : GE} (hc : X.calm = true) (hN : X.N.Nodup) (hi : PI X tg iter (tI A E gi)) (ok : BlkOk X.N X.env.scope scope own)
    (hg : ∀ (s : Shared) (H : Hp) (C : Addr) (cl : List (Str × Addr)) (fp : List Addr), PG (X.blk s H scope (compEnvC scope cl C X.env) fp) tg (tG A (own.map (·.2)) gg)) (ht : ∀ (s : Shared) (H : Hp) (C : Addr) (cl : List (Str × Addr)) (fp : List Addr), PTsD (X.blk s H scope (compEnvC scope cl C X.env) fp) ifs A gt)
    (he : ∀ (s : Shared) (H : Hp) (C : Addr) (cl : List (Str × Addr)) (fp : List Addr), PE (X.blk s H scope (compEnvC scope cl C X.env) fp) elt (tE A EF ge)) (hs : ∀ x, foldedSetIterable iter X.env x = pure x := by intro _; rfl) :
    PE X (.ListComp elt [⟨tg, iter, ifs, 0⟩] scope pos) (tE A E (eLc gi gg gt ge (own.map (·.2)))) :=
  pe_weak (pe_lc hc hN hi ok hg (fun s H C cl fp => (ht s H C cl fp).run) he hs) fun _ _ _ h => lc_weak h
theorem ds_setLc {i : Nat} {y : Str} {py : Pos} {elt tg iter : Expr} {ifs : List Expr} {scope : Scope} {own : List (Str × Nat)} {pos spos : Pos} {gi : GI} {gg : GG} {gt : GT} {ge : GE} (hc : X.calm = true) (hN : X.N.Nodup) (hy : X.N[i]? = some y) (hyl : X.env.scope.names.lookup y = some .local)
    (hsw : swapsWith (.ListComp elt [⟨tg, iter, ifs, 0⟩] scope pos) (some (.Name y py)) spos.line X.env = pure true) (hi : PI X tg iter (tI A E gi)) (ok : BlkOk X.N X.env.scope scope own)
    (hg : ∀ (s : Shared) (H : Hp) (C : Addr) (cl : List (Str × Addr)) (fp : List Addr), PG (X.blk s H scope (compEnvC scope cl C X.env) fp) tg (tG A (own.map (·.2)) gg)) (ht : ∀ (s : Shared) (H : Hp) (C : Addr) (cl : List (Str × Addr)) (fp : List Addr), PTsD (X.blk s H scope (compEnvC scope cl C X.env) fp) ifs A gt)
    (he : ∀ (s : Shared) (H : Hp) (C : Addr) (cl : List (Str × Addr)) (fp : List Addr), PE (X.blk s H scope (compEnvC scope cl C X.env) fp) elt (tE A EF ge)) (hs : ∀ x, foldedSetIterable iter X.env x = pure x := by intro _; rfl) :
    PS X (.Assign [.Name y py] (.ListComp elt [⟨tg, iter, ifs, 0⟩] scope pos) spos) (tS A E (sSet i (eLc gi gg gt ge (own.map (·.2))))) :=
  ps_weak (ps_setLc hc hN hy hyl hsw hi ok hg (fun s H C cl fp => (ht s H C cl fp).run) he hs) fun D σ H ⟨F, δ, B, S, q, kn, kb, kc, kr, kx⟩ => lc_weak
    ⟨F, δ, _, _, S, q, fun r δ1 F1 H1 v ⟨np, q1⟩ S1 f1 R => by
      obtain ⟨S2, f2⟩ := S1.put f1 R np
      exact kn _ _ _ _ q1 S2 f2, kx⟩
end
end DL
namespace DL
open PySem L2 Evl PySem.Spec PyProof.Rows

/-! ### a list comprehension of two fors -/
def lcD2 (gg : GG) (gt : GT) (gi1 : GI) (gg1 : GG) (gt1 : GT) (ge : GE) (vs vs1 : List Nat) : List D → Nat → Env → (List D → Env → Prop) → Prop
  | [], _, δ, k => k [] δ
  | d :: ds, n, δ, k => gg d δ fun δ2 => gt δ2 (fun b δ3 => if b = true then gi1 δ3 (fun es δ4 => npOk δ4 vs1 ∧ n + es.length ≤ 100000 ∧ lcD gg1 gt1 ge vs1 es (wipeD δ4 vs1) fun ys δ5 => npOk δ5 vs ∧ lcD2 gg gt gi1 gg1 gt1 ge vs vs1 ds (n + ys.length) (wipeD δ5 vs) fun zs δ6 => k (ys ++ zs) δ6) noX
      else npOk δ3 vs ∧ lcD2 gg gt gi1 gg1 gt1 ge vs vs1 ds n (wipeD δ3 vs) k) noX
def eLc2 (gi : GI) (gg : GG) (gt : GT) (gi1 : GI) (gg1 : GG) (gt1 : GT) (ge : GE) (vs vs1 : List Nat) : GE := fun δ P X => gi δ (fun ds δ1 => npOk δ1 vs ∧ lcD2 gg gt gi1 gg1 gt1 ge vs vs1 ds 0 (wipeD δ1 vs) fun ys δ2 => P (.ow (.lst ys)) δ2) X
theorem wipe_sub (τ : L2.St) (ws : List Nat) : ∀ us : List Nat, (∀ u ∈ us, u ∈ ws) → wipe (wipe τ us) ws = wipe τ ws
  | [], _ => rfl
  | u :: us, hu => by
    show wipe ((wipe τ us).set u none) ws = _
    rw [wipe_set, if_pos (hu u List.mem_cons_self)]
    exact wipe_sub τ ws us fun z hz => hu z (List.mem_cons_of_mem _ hz)
theorem drop_at {ds : List D} {i : Nat} {d : D} (hlt : i < ds.length) (hd : ds[i]? = some d) : ds.drop i = d :: ds.drop (i + 1) := by
  rw [List.drop_eq_getElem_cons hlt]
  rw [List.getElem?_eq_getElem hlt] at hd
  rw [Option.some.inj hd]
section
variable {X : Cx} {A : Am} {E : XK}
theorem lc2_weak {σ : L2.St} {H : Hp} {Q : VK} {gi gi1 : GI} {gg gg1 : GG} {gt gt1 : GT} {ge : GE} {vs vs1 : List Nat} (hv : ∀ i ∈ vs1, i ∈ vs) (h : tE A E (eLc2 gi gg gt gi1 gg1 gt1 ge vs vs1) σ H Q) : tLc2 (tI A E gi) (tG A vs gg) (tT A EF gt) (tI A EF gi1) (tG A vs1 gg1) (tT A EF gt1) (tE A EF ge) vs vs1 σ H Q := by
  obtain ⟨F, δ, P, Z, S, q, k, kx⟩ := h
  refine ⟨F, δ, _, _, S, q, fun ds δ1 F1 H1 J ⟨np, q1⟩ S1 f1 ok => ?_, kx⟩
  intro D hD
  obtain ⟨S1', f1', R1⟩ := (new_lst S1.sub hD (A := A) .nil).stt S1
  obtain ⟨a0, e0, ⟨_, e1, _⟩, hft⟩ := R1
  cases e0
  obtain ⟨fD, nD, _⟩ := hft D rfl
  obtain ⟨S2, f2⟩ := S1'.wipe np
  have T2 : TmpAt A F1 (upd H1 D (.lst [])) (wipe σ vs) (wipeD δ1 vs) D [] := TmpAt.step ⟨⟨[], upd_same, .nil⟩, fD, nD⟩ f2
  have hD0 : Fre H D := f1.there D (fre_of hD)
  refine ⟨fun i m H' => m = ds.length - i ∧ i ≤ ds.length ∧ ∃ F' δ' ys, lcD2 gg gt gi1 gg1 gt1 ge vs vs1 (ds.drop i) ys.length δ' (fun ys' δ2 => P (.ow (.lst (ys ++ ys'))) δ2) ∧ Stt A F' H' (wipe σ vs) δ' ∧ Fr σ δ F H (wipe σ vs) δ' F' H' ∧ Le F1 F' ∧ TmpAt A F' H' (wipe σ vs) δ' D ys ∧ ∀ j ∈ vs, ∀ s, δ'[j]? ≠ some (some s),
    ⟨ds.length, by simp, Nat.zero_le _, F1, wipeD δ1 vs, [], by simpa using q1, S2, (f1.trans f1').trans f2, Le.refl _, T2, fun j hj s => wipeD_none hj s⟩, ?_⟩
  rintro i m H3 ⟨rfl, hi, F3, δ3, ys, q3, S3, f3, le3, T3, nv⟩
  by_cases hlt : i < ds.length
  · refine .inr ⟨ok.go i F3 H3 hlt le3 S3.sub, fun H' => i + 1 ≤ ds.length ∧ ∃ F' δ' ys, lcD2 gg gt gi1 gg1 gt1 ge vs vs1 (ds.drop (i + 1)) ys.length δ' (fun ys' δ2 => P (.ow (.lst (ys ++ ys'))) δ2) ∧ Stt A F' H' (wipe σ vs) δ' ∧ Fr σ δ F H (wipe σ vs) δ' F' H' ∧ Le F1 F' ∧ TmpAt A F' H' (wipe σ vs) δ' D ys ∧ ∀ j ∈ vs, ∀ s, δ'[j]? ≠ some (some s), fun H' z => ⟨ds.length - (i + 1), by omega, rfl, z.1, z.2⟩, fun x H4 y => ?_⟩
    obtain ⟨F4, d, hd, n⟩ := ok.yld i F3 H3 x H4 hlt le3 S3.sub y
    obtain ⟨S4, f4, R4⟩ := n.stt S3
    rw [drop_at hlt hd] at q3
    have f34 := f3.trans f4
    have le4 := le3.trans f4.up
    refine ⟨F4, δ3, d, _, S4, R4, q3, fun δ5 σ5 q5 S5 f5 w5 => ⟨w5.trans (wipe_sub σ vs vs fun _ h => h), ?_⟩⟩
    have w5' : wipe σ5 vs = wipe σ vs := w5.trans (wipe_sub σ vs vs fun _ h => h)
    have f35 := f34.trans f5
    have T5 := (T3.step f4).step f5
    refine ⟨F4, δ5, _, noX, S5, q5, fun b δ6 F6 H6 q6 S6 f6 => ?_, fun x _ _ _ _ z _ => z.elim⟩
    have f36 := f35.trans f6
    have le6 := (le4.trans f5.up).trans f6.up
    have T6 := T5.step f6
    cases b with
    | false =>
      obtain ⟨np6, q6⟩ := q6
      obtain ⟨S7, f7⟩ := S6.wipe np6
      rw [w5'] at S7 f7
      exact ⟨hlt, F6, _, ys, q6, S7, f36.trans f7, le6.trans f7.up, T6.step f7, fun j hj s => wipeD_none hj s⟩
    | true =>
      refine ⟨F6, δ6, _, noX, S6, q6, fun es δ7 F7 H7 J1 ⟨np7, hlen, q7⟩ S7 f7 ok1 => ?_, fun x _ _ _ _ z _ => z.elim⟩
      have f37 := f36.trans f7
      have le7 := le6.trans f7.up
      have T7 := T6.step f7
      obtain ⟨S8, f8⟩ := S7.wipe np7
      have wsub : wipe (wipe σ5 vs1) vs = wipe σ vs := (wipe_sub σ5 vs vs1 hv).trans w5'
      refine ⟨fun j m H' => m = es.length - j ∧ j ≤ es.length ∧ ∃ F' δ' ys2, ys2.length ≤ ys.length + j ∧ lcD gg1 gt1 ge vs1 (es.drop j) δ' (fun ys' δ5 => npOk δ5 vs ∧ lcD2 gg gt gi1 gg1 gt1 ge vs vs1 (ds.drop (i + 1)) (ys2 ++ ys').length (wipeD δ5 vs) fun zs δ6 => P (.ow (.lst (ys2 ++ ys' ++ zs))) δ6) ∧ Stt A F' H' (wipe σ5 vs1) δ' ∧ Fr σ δ F H (wipe σ5 vs1) δ' F' H' ∧ Le F7 F' ∧ Le F1 F' ∧ TmpAt A F' H' (wipe σ5 vs1) δ' D ys2 ∧ ∀ l ∈ vs1, ∀ s, δ'[l]? ≠ some (some s),
        ⟨es.length, by simp, Nat.zero_le _, F7, wipeD δ7 vs1, ys, by omega, by simpa [List.append_assoc] using q7, S8, f37.trans f8, Le.refl _, le7, T7.step f8, fun j hj s => wipeD_none hj s⟩, ?_⟩
      rintro j m H9 ⟨rfl, hj, F9, δ9, ys2, hy2, q9, S9, f9, le9, le9', T9, nv9⟩
      by_cases hjlt : j < es.length
      · refine .inr ⟨ok1.go j F9 H9 hjlt le9 S9.sub, fun H' => j + 1 ≤ es.length ∧ ∃ F' δ' ys2, ys2.length ≤ ys.length + (j + 1) ∧ lcD gg1 gt1 ge vs1 (es.drop (j + 1)) δ' (fun ys' δ5 => npOk δ5 vs ∧ lcD2 gg gt gi1 gg1 gt1 ge vs vs1 (ds.drop (i + 1)) (ys2 ++ ys').length (wipeD δ5 vs) fun zs δ6 => P (.ow (.lst (ys2 ++ ys' ++ zs))) δ6) ∧ Stt A F' H' (wipe σ5 vs1) δ' ∧ Fr σ δ F H (wipe σ5 vs1) δ' F' H' ∧ Le F7 F' ∧ Le F1 F' ∧ TmpAt A F' H' (wipe σ5 vs1) δ' D ys2 ∧ ∀ l ∈ vs1, ∀ s, δ'[l]? ≠ some (some s), fun H' z => ⟨es.length - (j + 1), by omega, rfl, z.1, z.2⟩, fun x H10 y => ?_⟩
        obtain ⟨F10, d1, hd1, n1⟩ := ok1.yld j F9 H9 x H10 hjlt le9 S9.sub y
        obtain ⟨S10, f10, R10⟩ := n1.stt S9
        rw [drop_at hjlt hd1] at q9
        have f910 := f9.trans f10
        refine ⟨F10, δ9, d1, _, S10, R10, q9, fun δ11 σ11 q11 S11 f11 w11 => ⟨w11.trans (wipe_sub σ5 vs1 vs1 fun _ h => h), ?_⟩⟩
        have w11' : wipe σ11 vs1 = wipe σ5 vs1 := w11.trans (wipe_sub σ5 vs1 vs1 fun _ h => h)
        have f911 := f910.trans f11
        have T11 := (T9.step f10).step f11
        refine ⟨F10, δ11, _, noX, S11, q11, fun b δ12 F12 H12 q12 S12 f12 => ?_, fun x _ _ _ _ z _ => z.elim⟩
        have f912 := f911.trans f12
        have le12 := ((le9.trans f10.up).trans f11.up).trans f12.up
        have le12' := ((le9'.trans f10.up).trans f11.up).trans f12.up
        have T12 := T11.step f12
        cases b with
        | false =>
          obtain ⟨np12, q12⟩ := q12
          obtain ⟨S13, f13⟩ := S12.wipe np12
          rw [w11'] at S13 f13
          exact ⟨hjlt, F12, _, ys2, by omega, q12, S13, f912.trans f13, le12.trans f13.up, le12'.trans f13.up, T12.step f13, fun j hj s => wipeD_none hj s⟩
        | true =>
          refine ⟨F12, δ12, _, noX, S12, q12, fun r δ13 F13 H13 v13 q13 S13 f13 R13 => ?_, fun x _ _ _ _ z _ => z.elim⟩
          obtain ⟨F14, yd, _, S14, f14, hr14, np14, q14⟩ := frz_tmp S13 f13 R13 rfl q13
          have T14 := T12.step f14
          obtain ⟨⟨acc, t1, t2⟩, t3, t4⟩ := T14
          have f914 := f912.trans f14
          refine ⟨acc, t1, by rw [← t2.length]; exact sz_lt (by omega), hjlt, F14, wipeD δ13 vs1, ys2 ++ [yd], by simp; omega, ?_, ?_⟩
          · simpa [List.append_assoc] using q14
          obtain ⟨S15, o15⟩ := S14.tmp (acc' := acc ++ [v13]) t1 t3 t4
          have f15 := f914.tmp (acc' := acc ++ [v13]) hD0 o15
          obtain ⟨S16, f16⟩ := S15.wipe np14
          have T16 : TmpAt A F14 (upd H13 D (.lst (acc ++ [v13]))) (wipe σ11 vs1) (wipeD δ13 vs1) D (ys2 ++ [yd]) := TmpAt.step ⟨⟨_, upd_same, t2.append (.cons hr14 .nil)⟩, t3, fun z => t4 (o15 _ z)⟩ f16
          rw [w11'] at S16 f16 T16
          exact ⟨S16, f15.trans f16, le12.trans f14.up, le12'.trans f14.up, T16, fun j hj s => wipeD_none hj s⟩
      · have e : j = es.length := by omega
        subst e
        rw [List.drop_length] at q9
        obtain ⟨np9, q9⟩ := q9
        obtain ⟨S10, f10⟩ := S9.wipe np9
        rw [wsub] at S10 f10
        refine .inl ⟨ok1.stop _ F9 H9 rfl le9 S9.sub, hlt, F9, _, ys2, by simpa using q9, S10, f9.trans f10, le9'.trans f10.up, ?_, fun j hj s => wipeD_none hj s⟩
        have := T9.step f10
        exact this
  · have e : i = ds.length := by omega
    subst e
    rw [List.drop_length] at q3
    obtain ⟨S4, f4⟩ := S3.unwipe f3 nv
    obtain ⟨⟨acc, t1, t2⟩, t3, t4⟩ := T3
    refine .inl ⟨ok.stop _ F3 H3 rfl le3 S3.sub, k (.ow (.lst ys)) δ3 F3 H3 (.ref D) (by simpa [lcD2] using q3) S4 f4 ⟨D, rfl, ⟨acc, t1, t2⟩, fun b hb => ?_⟩⟩
    have hb' : b = D := hb
    subst hb'
    refine ⟨t3, fun ⟨j, o, a, h1, h2, h3⟩ => t4 ⟨j, o, a, h1, ?_, h3⟩, .inr hD0⟩
    rw [wipe_ne fun z => nv j z _ h1]; exact h2
theorem de_lc2 {elt tg iter tg1 iter1 : Expr} {ifs ifs1 : List Expr} {scope : Scope} {own : List (Str × Nat)} {vs1 : List Nat} {pos : Pos} {gi gi1 : GI} {gg gg1 : GG} {gt gt1 : GT} {ge : GE} (hc : X.calm = true) (hN : X.N.Nodup) (hi : PI X tg iter (tI A E gi)) (ok : BlkOk X.N X.env.scope scope own) (hv : ∀ i ∈ vs1, i ∈ own.map (·.2))
    (hg : ∀ (s : Shared) (H : Hp) (C : Addr) (cl : List (Str × Addr)) (fp : List Addr), PG (X.blk s H scope (compEnvC scope cl C X.env) fp) tg (tG A (own.map (·.2)) gg)) (ht : ∀ (s : Shared) (H : Hp) (C : Addr) (cl : List (Str × Addr)) (fp : List Addr), PTsD (X.blk s H scope (compEnvC scope cl C X.env) fp) ifs A gt)
    (hi1 : ∀ (s : Shared) (H : Hp) (C : Addr) (cl : List (Str × Addr)) (fp : List Addr), PI (X.blk s H scope (compEnvC scope cl C X.env) fp) tg1 iter1 (tI A EF gi1))
    (hg1 : ∀ (s : Shared) (H : Hp) (C : Addr) (cl : List (Str × Addr)) (fp : List Addr), PG (X.blk s H scope (compEnvC scope cl C X.env) fp) tg1 (tG A vs1 gg1)) (ht1 : ∀ (s : Shared) (H : Hp) (C : Addr) (cl : List (Str × Addr)) (fp : List Addr), PTsD (X.blk s H scope (compEnvC scope cl C X.env) fp) ifs1 A gt1)
    (he : ∀ (s : Shared) (H : Hp) (C : Addr) (cl : List (Str × Addr)) (fp : List Addr), PE (X.blk s H scope (compEnvC scope cl C X.env) fp) elt (tE A EF ge)) (hs : ∀ x, foldedSetIterable iter X.env x = pure x := by intro _; rfl) (hs1 : ∀ env x, foldedSetIterable iter1 env x = pure x := by intro _ _; rfl) :
    PE X (.ListComp elt [⟨tg, iter, ifs, 0⟩, ⟨tg1, iter1, ifs1, 0⟩] scope pos) (tE A E (eLc2 gi gg gt gi1 gg1 gt1 ge (own.map (·.2)) vs1)) :=
  pe_weak (pe_lc2 hc hN hi ok hv hg (fun s H C cl fp => (ht s H C cl fp).run) hi1 hg1 (fun s H C cl fp => (ht1 s H C cl fp).run) he hs hs1) fun _ _ _ h => lc2_weak hv h
theorem ds_setLc2 {i : Nat} {y : Str} {py : Pos} {elt tg iter tg1 iter1 : Expr} {ifs ifs1 : List Expr} {scope : Scope} {own : List (Str × Nat)} {vs1 : List Nat} {pos spos : Pos} {gi gi1 : GI} {gg gg1 : GG} {gt gt1 : GT} {ge : GE} (hc : X.calm = true) (hN : X.N.Nodup) (hy : X.N[i]? = some y) (hyl : X.env.scope.names.lookup y = some .local)
    (hsw : swapsWith (.ListComp elt [⟨tg, iter, ifs, 0⟩, ⟨tg1, iter1, ifs1, 0⟩] scope pos) (some (.Name y py)) spos.line X.env = pure true) (hi : PI X tg iter (tI A E gi)) (ok : BlkOk X.N X.env.scope scope own) (hv : ∀ i ∈ vs1, i ∈ own.map (·.2))
    (hg : ∀ (s : Shared) (H : Hp) (C : Addr) (cl : List (Str × Addr)) (fp : List Addr), PG (X.blk s H scope (compEnvC scope cl C X.env) fp) tg (tG A (own.map (·.2)) gg)) (ht : ∀ (s : Shared) (H : Hp) (C : Addr) (cl : List (Str × Addr)) (fp : List Addr), PTsD (X.blk s H scope (compEnvC scope cl C X.env) fp) ifs A gt)
    (hi1 : ∀ (s : Shared) (H : Hp) (C : Addr) (cl : List (Str × Addr)) (fp : List Addr), PI (X.blk s H scope (compEnvC scope cl C X.env) fp) tg1 iter1 (tI A EF gi1))
    (hg1 : ∀ (s : Shared) (H : Hp) (C : Addr) (cl : List (Str × Addr)) (fp : List Addr), PG (X.blk s H scope (compEnvC scope cl C X.env) fp) tg1 (tG A vs1 gg1)) (ht1 : ∀ (s : Shared) (H : Hp) (C : Addr) (cl : List (Str × Addr)) (fp : List Addr), PTsD (X.blk s H scope (compEnvC scope cl C X.env) fp) ifs1 A gt1)
    (he : ∀ (s : Shared) (H : Hp) (C : Addr) (cl : List (Str × Addr)) (fp : List Addr), PE (X.blk s H scope (compEnvC scope cl C X.env) fp) elt (tE A EF ge)) (hs : ∀ x, foldedSetIterable iter X.env x = pure x := by intro _; rfl) (hs1 : ∀ env x, foldedSetIterable iter1 env x = pure x := by intro _ _; rfl) :
    PS X (.Assign [.Name y py] (.ListComp elt [⟨tg, iter, ifs, 0⟩, ⟨tg1, iter1, ifs1, 0⟩] scope pos) spos) (tS A E (sSet i (eLc2 gi gg gt gi1 gg1 gt1 ge (own.map (·.2)) vs1))) :=
  ps_weak (ps_setLc2 hc hN hy hyl hsw hi ok hv hg (fun s H C cl fp => (ht s H C cl fp).run) hi1 hg1 (fun s H C cl fp => (ht1 s H C cl fp).run) he hs hs1) fun D σ H ⟨F, δ, B, S, q, kn, kb, kc, kr, kx⟩ => lc2_weak hv
    ⟨F, δ, _, _, S, q, fun r δ1 F1 H1 v ⟨np, q1⟩ S1 f1 R => by
      obtain ⟨S2, f2⟩ := S1.put f1 R np
      exact kn _ _ _ _ q1 S2 f2, kx⟩
end
end DL
/-! set(list of ints), turned from the kit's rule for tuples -/
namespace DL
open PySem L2 Evl PySem.Spec PyProof.Rows
section
variable {P : Program} {w : World} {A : Around} {E : Value → Shared → Prop} {s : Shared}
abbrev soO (w : World) : Obj := { cls := .type "set", dict := none, data := .set #[] 0 (.fresh 0 0 (!w.params.followText "set-order")) }
theorem set_listI {l : Addr} {items : Array Value} (ns : List Int) {Q : Value → Shared → Prop} (hh : A.handled = none) (hl : s.heap.IsList l items) (hit : IntsAre items.toList ns) (hb : ns.length + 1 < scanBound)
    (h : ∀ (h' : Heap) (tk c : Nat), SetR w h' s.heap.objs.size (fun j => decide (j ∈ ns)) c → c ≤ ns.length → (∀ b o, s.heap.get? b = some o → h'.get? b = some o) → Q (.ref s.heap.objs.size) { s with heap := h', toks := tk }) :
    wpAny (model P w) A (call (.type "set") [.ref l]) Q E s := by
  have hisz : items.size = ns.length := by
    have q := IntsAre.length hit
    rw [Array.length_toList] at q
    exact q
  obtain ⟨c, tl, hmro⟩ := F.called_set.mro
  have hmade := F.called_set.made
  have hsub := F.called_set.sub
  refine wpAny_call (codeAny_of_tree ?_)
  show wpAny _ _ (callAny (.type "set") _) _ _ _
  refine wpAny_pure ⟨Code.quiet_builtin _ (by decide +kernel), codeAny_builtin F.entry_type_call ?_⟩
  rw [Around.under_plain (weight_type_call_type "set" [.ref l] []) rfl]
  have h1 := F.called_set.notType
  have h2 := F.called_set.canCreate
  have hct := F.typeCall_set_1 (.ref l)
  repeat (any_goals (first | assumption | wp_step))
  refine codeAny_mono (code_set_led1 (.ref l) (E := E) (Q₁ := fun obj s₁ => obj = .ref s.heap.objs.size ∧ s₁ = { s with heap := s.heap.push (soO w) }) ⟨rfl, rfl⟩) fun r s₁ hr => ?_
  cases r with
  | error e => exact hr
  | ok fl =>
    cases fl with
    | ret obj =>
      obtain ⟨rfl, rfl⟩ := hr
      have hS : (s.heap.push (soO w)).get? s.heap.objs.size = some (soO w) := Heap.get?_push_size _ rfl
      have hT : Shared.TypeIs { s with heap := s.heap.push (soO w) } (.ref s.heap.objs.size) "set" := ⟨_, hS, rfl⟩
      have hli := F.called_set.init.lookup
      have hbi := F.called_set.init.bind (.ref s.heap.objs.size)
      repeat (any_goals (first | assumption | wp_step))
      refine codeAny_mono (codeAny_call_builtin (R := wants (fun r s₂ => r = .none ∧ ∃ h' tk c, s₂ = { s with heap := h', toks := tk } ∧ SetR w h' s.heap.objs.size (fun j => decide (j ∈ ns)) c ∧ c ≤ ns.length ∧
          (∀ b o, s.heap.get? b = some o → h'.get? b = some o)) E) F.called_set.init.plain F.entry_set_init (check_set_init_1 hT ?_)) fun r₂ s₂ hr₂ => ?_
      · obtain ⟨ol, hol, hcl, nl, hdl⟩ := hl
        obtain ⟨ocls, odict, odata, oslots⟩ := ol
        simp only at hcl hdl
        subst hcl; subst hdl
        have hol' : (s.heap.push (soO w)).get? l = some { cls := .type "list", dict := odict, data := .seq items nl, slots := oslots } := Heap.get?_push_of_some _ hol
        have hsls := PySem.F.sub_list_set
        have hslf := PySem.F.sub_list_frozenset
        have hne : (Value.type "list" == Value.type "dict") = false := by decide
        have hl1 : (s.heap.push (soO w)).IsList l items := ⟨_, hol', rfl, nl, rfl⟩
        unfold Builtin.«set.__init__» noKeywords Builtin.Frozenset.updateFrom
        generalize hPI : pyIter = PI
        wp_walk
        subst hPI
        refine wpAny_pyIter_list hl1 ?_
        refine wpAny_bind (wpAny_runValue ?_)
        have hlS : l < s.heap.objs.size := Heap.lt_size hol
        have hh3 : A.in1.in1.in1.handled = none := by simp [hh]
        have hneI : l ≠ (s.heap.push (soO w)).objs.size := by
          rw [Heap.size_push]; exact Nat.ne_of_lt (Nat.lt_succ_of_lt hlS)
        have hSf : s.heap.objs.size ∉ [(s.heap.push (soO w)).objs.size, l] := by
          rw [Heap.size_push]; simp only [List.mem_cons, List.mem_singleton, List.not_mem_nil, or_false, not_or]
          exact ⟨Nat.ne_of_lt (Nat.lt_succ_self _), Nat.ne_of_gt hlS⟩
        have hval : ∀ (i : Nat) (v : Value), items[i]? = some v → ∃ k t, ns[i]? = some k ∧ v = .int k t := fun i v hv => by
          have hi : i < ns.length := by rw [← hisz]; exact (Array.getElem?_eq_some_iff.mp hv).1
          obtain ⟨t, e⟩ := PyProof.Rows.IntsAre.int_at hit i v (by rw [Array.getElem?_toList]; exact hv)
          refine ⟨ns[i], t, List.getElem?_eq_getElem hi, ?_⟩
          rw [e, List.getD_eq_getElem?_getD, List.getElem?_eq_getElem hi] <;> rfl
        refine set_update_ints ((Walks.list hh3 _ l hneI items).toS) s.heap.objs.size
          hSf ns hisz hb hval (items.size - 0) 0 _ (by omega) (Nat.zero_le _)
          ⟨⟨_, Heap.get?_push_size _ rfl, rfl, rfl⟩, (hl1.push _)⟩ ?hS0 ?hR
        case hS0 => exact ⟨0, Nat.le_refl 0, setR_new_at (Heap.get?_push_of_some _ hS)⟩
        case hR =>
          intro s' c' hm hc' hS'
          obtain ⟨h', g2, d', tk', os'⟩ := s'
          have eg : g2 = s.gens := hm.gens
          have ed : d' = s.drawn := hm.drawn
          have eo : os' = s.os := hm.os
          subst eg; subst ed; subst eo
          show wpAny _ _ _ _ _ _
          refine wpAny_pure ?_
          show wpAny _ _ (ret Value.none) _ _ _
          rw [hisz] at hc'
          refine wpAny_pure ⟨rfl, h', tk', c', rfl, hS', hc', fun b o e => ?_⟩
          have hb0 : b < s.heap.objs.size := Heap.lt_size e
          have hb2 : b ≠ (s.heap.push (soO w)).objs.size := by rw [Heap.size_push]; exact Nat.ne_of_lt (Nat.lt_succ_of_lt hb0)
          exact hm.heap b o (by simp only [List.mem_cons, List.mem_singleton, List.not_mem_nil, or_false, not_or]; exact ⟨Nat.ne_of_lt hb0, hb2⟩) (Heap.get?_push_of_some _ (Heap.get?_push_of_some _ e))
      · cases r₂ with
        | error e => exact hr₂
        | ok fl₂ =>
          cases fl₂ with
          | ret r =>
            obtain ⟨rfl, h', tk, c', rfl, hS', hc', hk'⟩ := hr₂
            repeat (any_goals (first | assumption | wp_step))
            exact h _ _ _ hS' hc' hk'
          | _ => exact hr₂.elim
    | _ => exact hr.elim
end
/-- set(xs), xs a list or a tuple of ints -/
def rSetI (K : PySem.W.Frag) (w : World) : List V → Hp → VK → Prop := fun xs H Q => ∃ (a : Addr) (ns : List Int), xs = [.ref a] ∧ (SqL K H a (ns.map V.int) ∨ SqT K H a (ns.map V.int)) ∧ ns.length ≤ 1000 ∧
  ∀ p c, H p = none → c ≤ ns.length → Q (.ref p) (upd H p (SetO w p (fun j => decide (j ∈ ns)) c))
theorem cr_setI {X : Cx} (hc : X.calm = true) : CallR X (.type "set") (rSetI X.K X.w) := by
  intro pins s σ H xs us Q I r h
  obtain ⟨a, ns, rfl, hx, hl, q⟩ := h
  rw [Vals.ref1 r]
  have fin : ∀ (h' : Heap) (tk c : Nat), SetR X.w h' s.heap.objs.size (fun j => decide (j ∈ ns)) c → c ≤ ns.length → (∀ b o, s.heap.get? b = some o → h'.get? b = some o) → EP X pins σ Q (.ref s.heap.objs.size) { s with heap := h', toks := tk } := fun h' tk c R hcn k => by
    have hn : H s.heap.objs.size = none := I.hok.fresh (Nat.le_refl _)
    exact ⟨.ref _, _, I.laid (t' := tk) k (Nat.le_refl _) (setO_new R), rfl, q _ c hn hcn⟩
  rcases hx with hx | hx
  · obtain ⟨its, rv, pl, hz⟩ := I.list hx
    exact set_listI ns (I.ok.hd hc) pl.isList (by simpa using rv.ints) (by unfold scanBound; omega) fin
  · obtain ⟨its, rv, pl, hz⟩ := I.tuple hx
    exact call_set_tupI ns (I.ok.hd hc) (show s.heap.IsTuple a its.toArray from pl) (by simpa using rv.ints) (by unfold scanBound; omega) fin
end DL
namespace DL
open PySem L2 Evl PySem.Spec PyProof.Rows

/-! ### tests -/
def gV (g : GE) : GT := fun δ P X => g δ (fun r δ' => match r with | .fz (.bl b) => P b δ' | _ => False) X
def truD : D → Option Bool
  | .non => some false
  | .bl b => some b
  | .int i => some (i != 0)
  | .str s => if s.length ≤ 1000000 then some ((s.length : Int) != 0) else none
  | .tup xs => some (!xs.isEmpty)
  | .lst xs => some (!xs.isEmpty)
  | _ => none
def gTr (g : GE) : GT := fun δ P X => g δ (fun r δ' => vw r fun d => match truD d with | some b => P b δ' | none => False) X
def gAnd (a b : GT) : GT := fun δ P X => a δ (fun c δ1 => if c = true then b δ1 P X else P false δ1) X
def gOr (a b : GT) : GT := fun δ P X => a δ (fun c δ1 => if c = true then P true δ1 else b δ1 P X) X
def gNot (a : GT) : GT := fun δ P X => a δ (fun c δ1 => P (!c) δ1) X
def eAnd (a b : GE) : GE := fun δ P X => a δ (fun r δ1 => match r with | .fz (.bl c) => if c = true then b δ1 P X else P (.fz (.bl false)) δ1 | _ => False) X
def eOr (a b : GE) : GE := fun δ P X => a δ (fun r δ1 => match r with | .fz (.bl c) => if c = true then P (.fz (.bl true)) δ1 else b δ1 P X | _ => False) X
def eNot (a : GE) : GE := fun δ P X => a δ (fun r δ1 => match r with | .fz (.bl c) => P (.fz (.bl (!c))) δ1 | _ => False) X
def eIf (c : GT) (a b : GE) : GE := fun δ P X => c δ (fun t δ1 => if t = true then a δ1 P X else b δ1 P X) X
def eChain (op op' : Op2) (a b c : GO) : GE := fun δ P X => a δ (fun h1 δ1 => b δ1 (fun h2 δ2 => rsl h1 δ2 fun d1 => rsl h2 δ2 fun d2 => op d1 d2 fun z => match z with
  | .fz (.bl t) => if t = true then c δ2 (fun h3 δ3 => rsl h2 δ3 fun d2 => rsl h3 δ3 fun d3 => op' d2 d3 fun r => P r δ3) X else P (.fz (.bl false)) δ2
  | _ => False) X) X
section
variable {X : Cx} {A : Am} {E : XK} {e a b c : Expr} {rest : List Expr} {g ga gb : GE} {t1 t2 : GT} {pos : Pos}
theorem isE {F : Hp} {xs : List D} {vs : List V} (h : Reps A F xs vs) : xs.isEmpty = vs.isEmpty := by
  cases h <;> rfl
theorem dt_val (h : PE X e (tE A E g)) (he : ∀ whole, isTrue e X.env whole = (do let v ← whole; standAt e.pos; holding [v] (truthy v)) := by intro _; rfl) : PT X e (tT A E (gV g)) :=
  pt_weak (pt_val h he) fun σ H Q ⟨F, δ, P, Z, S, q, k, kx⟩ => ⟨F, δ, _, Z, S, q, fun r δ1 F1 H1 v q1 S1 f1 R => by
    split at q1
    · cases R; exact ⟨_, rfl, k _ _ _ _ q1 S1 f1⟩
    · exact q1.elim, kx⟩
theorem dt_cmp {op : CmpOp} {t : TE} {ra rb : Expr} (h : PT X (.Compare ra [op] [rb] pos) (tTest t)) (hi : ∀ σ H Q, tE A E g σ H Q → t σ H Q) : PT X (.Compare ra [op] [rb] pos) (tT A E (gV g)) :=
  pt_weak h fun σ H Q ⟨F, δ, P, Z, S, q, k, kx⟩ => hi _ _ _ ⟨F, δ, _, Z, S, q, fun r δ1 F1 H1 v q1 S1 f1 R => by
    split at q1
    · cases R; exact ⟨_, rfl, k _ _ _ _ q1 S1 f1⟩
    · exact q1.elim, kx⟩
theorem dt_test {t : TE} (h : PT X e (tTest t)) (hi : ∀ σ H Q, tE A E g σ H Q → t σ H Q) : PT X e (tT A E (gV g)) :=
  pt_weak h fun σ H Q ⟨F, δ, P, Z, S, q, k, kx⟩ => hi _ _ _ ⟨F, δ, _, Z, S, q, fun r δ1 F1 H1 v q1 S1 f1 R => by
    split at q1
    · cases R; exact ⟨_, rfl, k _ _ _ _ q1 S1 f1⟩
    · exact q1.elim, kx⟩
theorem dt_true (hK : A.K = X.K) (h : PE X e (tE A E g)) (he : ∀ whole, isTrue e X.env whole = (do let v ← whole; standAt e.pos; holding [v] (truthy v)) := by intro _; rfl) : PT X e (tT A E (gTr g)) :=
  pt_weak (pt_truth h he) fun σ H Q ⟨F, δ, P, Z, S, q, k, kx⟩ => ⟨F, δ, _, Z, S, q, fun r δ1 F1 H1 v q1 S1 f1 R => by
    obtain ⟨F2, dd, _, S2, f2, hr, q2⟩ := frz_tmp S1 f1 R rfl q1
    cases hd : truD dd with
    | none => rw [hd] at q2; exact q2.elim
    | some t =>
      rw [hd] at q2
      refine ⟨t, ?_, k _ _ _ _ q2 S2 f2⟩
      cases hr with
      | non => cases hd; rfl
      | bl b => cases hd; rfl
      | int i => cases hd; rfl
      | str s =>
        simp only [truD] at hd
        split at hd
        · rename_i hz; cases hd; exact ⟨sz_big hz, rfl⟩
        · cases hd
      | tup h r => cases hd; exact .inr (.inl ⟨_, hK ▸ ex_t S2.sub h, by rw [isE r]⟩)
      | lst h r => cases hd; exact .inl ⟨_, sq_of (S2.sub _ _ h), by rw [isE r]⟩
      | _ => exact (by cases hd), kx⟩
theorem dw_and1 (h : PT X a (tT A E t1)) : PW X (.BoolOp .And [a] pos) (tT A E t1) := pw_and1 h
theorem dw_or1 (h : PT X a (tT A E t1)) : PW X (.BoolOp .Or [a] pos) (tT A E t1) := pw_or1 h
theorem pw_weak {e : Expr} {t t' : TT} (h : PW X e t) (i : ∀ σ H Q, t' σ H Q → t σ H Q) : PW X e t' := ⟨fun wh pins s σ H Q I q => h.run wh pins s σ H Q I (i _ _ _ q)⟩
theorem dw_and (ha : PT X a (tT A E t1)) (hb : PW X (.BoolOp .And (b :: rest) pos) (tT A E t2)) : PW X (.BoolOp .And (a :: b :: rest) pos) (tT A E (gAnd t1 t2)) :=
  pw_weak (pw_and ha hb) fun σ H Q ⟨F, δ, P, Z, S, q, k, kx⟩ => ⟨F, δ, _, Z, S, q, fun c δ1 F1 H1 q1 S1 f1 => by
    cases c with
    | true => exact ⟨F1, δ1, P, Z, S1, q1, fun _ _ _ _ z S2 f2 => k _ _ _ _ z S2 (f1.trans f2), fun x _ _ _ _ z er => kx x _ _ _ _ z (er.back f1)⟩
    | false => exact k _ _ _ _ q1 S1 f1, kx⟩
theorem dw_or (ha : PT X a (tT A E t1)) (hb : PW X (.BoolOp .Or (b :: rest) pos) (tT A E t2)) : PW X (.BoolOp .Or (a :: b :: rest) pos) (tT A E (gOr t1 t2)) :=
  pw_weak (pw_or ha hb) fun σ H Q ⟨F, δ, P, Z, S, q, k, kx⟩ => ⟨F, δ, _, Z, S, q, fun c δ1 F1 H1 q1 S1 f1 => by
    cases c with
    | false => exact ⟨F1, δ1, P, Z, S1, q1, fun _ _ _ _ z S2 f2 => k _ _ _ _ z S2 (f1.trans f2), fun x _ _ _ _ z er => kx x _ _ _ _ z (er.back f1)⟩
    | true => exact k _ _ _ _ q1 S1 f1, kx⟩
theorem dt_not (ha : PT X a (tT A E t1)) : PT X (.UnaryOp .Not a pos) (tT A E (gNot t1)) :=
  pt_weak (pt_not ha) fun σ H Q ⟨F, δ, P, Z, S, q, k, kx⟩ => ⟨F, δ, _, Z, S, q, fun c δ1 F1 H1 q1 S1 f1 => k _ _ _ _ q1 S1 f1, kx⟩
theorem de_and (ha : PE X a (tE A E ga)) (hb : PE X (.BoolOp .And (b :: rest) pos) (tE A E gb)) : PE X (.BoolOp .And (a :: b :: rest) pos) (tE A E (eAnd ga gb)) :=
  pe_weak (pe_and ha hb) fun σ H Q ⟨F, δ, P, Z, S, q, k, kx⟩ => ⟨F, δ, _, Z, S, q, fun r δ1 F1 H1 v q1 S1 f1 R => by
    split at q1
    · rename_i c
      cases R
      refine ⟨c, rfl, ?_⟩
      cases c with
      | true => exact ⟨F1, δ1, P, Z, S1, q1, fun _ _ _ _ _ z S2 f2 R => k _ _ _ _ _ z S2 (f1.trans f2) (R.back f1), fun x _ _ _ _ z er => kx x _ _ _ _ z (er.back f1)⟩
      | false => exact k _ _ _ _ _ q1 S1 f1 (.bl false)
    · exact q1.elim, kx⟩
theorem de_or (ha : PE X a (tE A E ga)) (hb : PE X (.BoolOp .Or (b :: rest) pos) (tE A E gb)) : PE X (.BoolOp .Or (a :: b :: rest) pos) (tE A E (eOr ga gb)) :=
  pe_weak (pe_or ha hb) fun σ H Q ⟨F, δ, P, Z, S, q, k, kx⟩ => ⟨F, δ, _, Z, S, q, fun r δ1 F1 H1 v q1 S1 f1 R => by
    split at q1
    · rename_i c
      cases R
      refine ⟨c, rfl, ?_⟩
      cases c with
      | false => exact ⟨F1, δ1, P, Z, S1, q1, fun _ _ _ _ _ z S2 f2 R => k _ _ _ _ _ z S2 (f1.trans f2) (R.back f1), fun x _ _ _ _ z er => kx x _ _ _ _ z (er.back f1)⟩
      | true => exact k _ _ _ _ _ q1 S1 f1 (.bl true)
    · exact q1.elim, kx⟩
theorem de_one {op : BoolOp} (h : PE X a (tE A E ga)) : PE X (.BoolOp op [a] pos) (tE A E ga) := pe_one h
theorem de_not (ha : PE X a (tE A E ga)) : PE X (.UnaryOp .Not a pos) (tE A E (eNot ga)) :=
  pe_weak (pe_not ha) fun σ H Q ⟨F, δ, P, Z, S, q, k, kx⟩ => ⟨F, δ, _, Z, S, q, fun r δ1 F1 H1 v q1 S1 f1 R => by
    split at q1
    · cases R; exact ⟨_, rfl, k _ _ _ _ _ q1 S1 f1 (.bl _)⟩
    · exact q1.elim, kx⟩
theorem de_if (hc : PT X c (tT A E t1)) (ha : PE X a (tE A E ga)) (hb : PE X b (tE A E gb)) : PE X (.IfExp c a b pos) (tE A E (eIf t1 ga gb)) :=
  pe_weak (pe_ifExp hc ha hb) fun σ H Q ⟨F, δ, P, Z, S, q, k, kx⟩ => ⟨F, δ, _, Z, S, q, fun c δ1 F1 H1 q1 S1 f1 => by
    cases c with
    | true => exact ⟨F1, δ1, P, Z, S1, q1, fun _ _ _ _ _ z S2 f2 R => k _ _ _ _ _ z S2 (f1.trans f2) (R.back f1), fun x _ _ _ _ z er => kx x _ _ _ _ z (er.back f1)⟩
    | false => exact ⟨F1, δ1, P, Z, S1, q1, fun _ _ _ _ _ z S2 f2 R => k _ _ _ _ _ z S2 (f1.trans f2) (R.back f1), fun x _ _ _ _ z er => kx x _ _ _ _ z (er.back f1)⟩, kx⟩
theorem chain_weak {op op' : Op2} {g1 g2 g3 : GO} {r r' : R2} (o : OpD A r op) (o' : OpD A r' op') (σ : L2.St) (H : Hp) (Q : VK) : tE A E (eChain op op' g1 g2 g3) σ H Q → tChain r r' (tO A E g1) (tO A E g2) (tO A E g3) σ H Q :=
  fun ⟨F, δ, P, Z, S, q, k, kx⟩ => ⟨F, δ, _, Z, S, q, fun h1 δ1 F1 H1 v1 q1 S1 f1 a1 => ⟨F1, δ1, _, Z, S1, q1, fun h2 δ2 F2 H2 v2 q2 S2 f2 a2 => by
    obtain ⟨d1, r1, q3⟩ := rsl_at S2 (a1.mono f2.up) q2
    obtain ⟨d2, r2, q4⟩ := rsl_at S2 a2 q3
    refine o F2 H2 d1 d2 v1 v2 _ _ S2.sub r1 r2 q4 fun z F' H' v q5 n => ?_
    obtain ⟨S3, f3, R⟩ := n.stt S2
    have f13 := (f1.trans f2).trans f3
    split at q5
    · rename_i t
      cases R
      refine ⟨t, rfl, ?_⟩
      cases t with
      | false => exact k _ _ _ _ _ q5 S3 f13 (.bl false)
      | true =>
        refine ⟨F', δ2, _, Z, S3, q5, fun h3 δ3 F3 H3 v3 q6 S4 f4 a3 => ?_, fun x _ _ _ _ z er => kx x _ _ _ _ z (er.back f13)⟩
        obtain ⟨d2', r2', q7⟩ := rsl_at S4 (a2.mono (f3.up.trans f4.up)) q6
        obtain ⟨d3, r3, q8⟩ := rsl_at S4 a3 q7
        refine o' F3 H3 d2' d3 v2 v3 _ Q S4.sub r2' r3 q8 fun z F5 H5 v q9 n => ?_
        obtain ⟨S5, f5, R⟩ := n.stt S4
        exact k _ _ _ _ _ q9 S5 ((f13.trans f4).trans f5) (R.back (f13.trans f4))
    · exact q5.elim, fun x F' H' cls d z er => kx x F' H' cls d z (er.back f1)⟩, kx⟩
theorem de_chain {op op' : CmpOp} {o1 o2 : Op2} {g1 g2 g3 : GO} {r r' : R2} (d1 : OpD A r o1) (d2 : OpD A r' o2) (ho : OpR X (compareOp op) r) (ho' : OpR X (compareOp op') r') (ha : PE X a (tO A E g1)) (hb : PE X b (tO A E g2)) (hc : PE X c (tO A E g3))
    (hm : lastMarks [op, op'] [b, c] = false := by with_unfolding_all rfl) : PE X (.Compare a [op, op'] [b, c] pos) (tE A E (eChain o1 o2 g1 g2 g3)) :=
  pe_weak (pe_chain ho ho' ha hb hc hm) (chain_weak d1 d2)
theorem dt_chain {op op' : CmpOp} {o1 o2 : Op2} {g1 g2 g3 : GO} {r r' : R2} (d1 : OpD A r o1) (d2 : OpD A r' o2) (ho : OpR X (compareOp op) r) (ho' : OpR X (compareOp op') r') (ha : PE X a (tO A E g1)) (hb : PE X b (tO A E g2)) (hc : PE X c (tO A E g3))
    (hm : lastMarks [op, op'] [b, c] = false := by with_unfolding_all rfl) : PT X (.Compare a [op, op'] [b, c] pos) (tT A E (gV (eChain o1 o2 g1 g2 g3))) :=
  dt_test (pt_chain ho ho' ha hb hc hm) (chain_weak d1 d2)
theorem bin_weak {op : Op2} {ga gb : GO} {r : R2} (o : OpD A r op) (σ : L2.St) (H : Hp) (Q : VK) : tE A E (eBin op ga gb) σ H Q → tOp r (tO A E ga) (tO A E gb) σ H Q := fun ⟨F, δ, P, Z, S, q, k, kx⟩ => ⟨F, δ, _, Z, S, q, fun h1 δ1 F1 H1 v1 q1 S1 f1 a1 => ⟨F1, δ1, _, Z, S1, q1, fun h2 δ2 F2 H2 v2 q2 S2 f2 a2 => by
    obtain ⟨d1, r1, q3⟩ := rsl_at S2 (a1.mono f2.up) q2
    obtain ⟨d2, r2, q4⟩ := rsl_at S2 a2 q3
    refine o F2 H2 d1 d2 v1 v2 _ Q S2.sub r1 r2 q4 fun r F' H' v q5 n => ?_
    obtain ⟨S3, f3, R⟩ := n.stt S2
    exact k _ _ _ _ _ q5 S3 ((f1.trans f2).trans f3) (R.back (f1.trans f2)), fun x F' H' cls d z er => kx x F' H' cls d z (er.back f1)⟩, kx⟩
/-- a comparison as a test -/
theorem dt_cmpR {op : CmpOp} {o1 : Op2} {g1 g2 : GO} {r : R2} (d : OpD A r o1) (ho : OpR X (compareOp op) r) (ha : PE X a (tO A E g1)) (hb : PE X b (tO A E g2)) (hm : behindInMarks op b = false) : PT X (.Compare a [op] [b] pos) (tT A E (gV (eBin o1 g1 g2))) :=
  dt_test (pt_cmpR ho ha hb hm) (bin_weak d)
theorem de_cmpR {op : CmpOp} {o1 : Op2} {g1 g2 : GO} {r : R2} (d : OpD A r o1) (ho : OpR X (compareOp op) r) (ha : PE X a (tO A E g1)) (hb : PE X b (tO A E g2)) (hm : behindInMarks op b = false) : PE X (.Compare a [op] [b] pos) (tE A E (eBin o1 g1 g2)) :=
  de_bin d (pe_cmpR ho ha hb hm)
end
end DL
namespace DL
open PySem L2 Evl PySem.Spec PyProof.Rows

/-! ### what a name owns is changed -/
section
variable {A : Am} {F F' H H' : Hp} {σ σ' : L2.St} {δ δ' : Env} {v : V}
theorem Stt.wr (S : Stt A F H σ δ) {i : Nat} {o o' : Ow} {a : Addr} {u0 u : HO} (hi : δ[i]? = some (some (.ow o))) (ha : σ[i]? = some (some (.ref a))) (np : o ≠ .pen) (np' : o' ≠ .pen) (hH : H a = some u0) (ht0 : ∀ ps, u0 ≠ .tbl ps) (hx0 : ∀ φ, u0 ≠ .ext φ) (ht : ∀ ps, u ≠ .tbl ps)
    (hf : F a = none) (hn : OwAt A F (upd H a u) o' a) : Stt A F (upd H a u) σ (δ.set i (some (.ow o'))) ∧ Fr σ δ F H σ (δ.set i (some (.ow o'))) F (upd H a u) := by
  have fo : Ft H o a a := by cases o with | pen => exact (np rfl).elim | lst _ => rfl | dct _ => rfl
  have fo' : ∀ {H0 : Hp} {b : Addr}, Ft H0 o' a b → b = a := fun {H0 b} h => by cases o' with | pen => exact (np' rfl).elim | lst _ => exact h | dct _ => exact h
  have hlt : i < δ.length := by
    rcases Nat.lt_or_ge i δ.length with h | h
    · exact h
    · rw [List.getElem?_eq_none h] at hi; cases hi
  have cse : ∀ {j : Nat} {s : Sl}, (δ.set i (some (.ow o')))[j]? = some (some s) → (j = i ∧ s = .ow o') ∨ (j ≠ i ∧ δ[j]? = some (some s)) := fun {j s} h => by
    by_cases hj : j = i
    · subst hj
      rw [List.getElem?_set, if_pos rfl, if_pos hlt] at h
      cases h; exact .inl ⟨rfl, rfl⟩
    · rw [List.getElem?_set_ne (Ne.symm hj)] at h
      exact .inr ⟨hj, h⟩
  have oth : ∀ {j : Nat} {p : Ow} {c b : Addr}, j ≠ i → δ[j]? = some (some (.ow p)) → σ[j]? = some (some (.ref c)) → Ft H p c b → b ≠ a := fun {j p c b} hj h1 h2 h3 z => by
    subst z
    exact hj (S.sep j i p o c b b h1 h2 hi ha h3 fo)
  have ownk : ∀ (j : Nat) (p : Ow) (c : Addr), j ≠ i → δ[j]? = some (some (.ow p)) → σ[j]? = some (some (.ref c)) → OwAt A F (upd H a u) p c ∧ (∀ b, Ft (upd H a u) p c b ↔ Ft H p c b) ∧ ∀ b, Ft H p c b → F b = none := fun j p c hj h1 h2 => by
    obtain ⟨w, e, c', e1, h, h3⟩ := S.sl j _ h1
    rw [h2] at e; cases e; cases e1
    obtain ⟨q1, q2⟩ := h.keep (H' := upd H a u) (Le.refl F) fun b hb => upd_ne (oth hj h1 h2 hb)
    exact ⟨q1, q2, h3⟩
  have own_iff : ∀ b, Own σ (δ.set i (some (.ow o'))) (upd H a u) b → Own σ δ H b := fun b ⟨j, p, c, h1, h2, h3⟩ => by
    rcases cse h1 with ⟨e, e1⟩ | ⟨e, e1⟩
    · subst e
      cases e1
      rw [ha] at h2; cases h2
      rw [fo' h3]
      exact ⟨j, o, a, hi, ha, fo⟩
    · exact ⟨j, p, c, e1, h2, ((ownk j p c e e1 h2).2.1 b).mp h3⟩
  refine ⟨⟨fun b w h => ?_, ?_, fun b ps h => ?_, by rw [List.length_set]; exact S.len, fun j s h => ?_, fun j k p p' c c' b h1 h2 h3 h4 h5 h6 => ?_⟩, Le.refl F, fun b w h hfb n no => ?_, fun b h => ?_, fun b h => .inl (own_iff b h), fun j h => ?_⟩
  · rw [upd_ne fun z => by subst z; rw [hf] at h; cases h]; exact S.sub _ _ h
  · intro p hp
    obtain ⟨ps, h1, h2, h3⟩ := S.tab p hp
    have hk : ∀ {b : Addr} {w : HO}, H b = some w → w ≠ u0 → upd H a u b = some w := fun {b w} h n => by
      by_cases hb : b = a
      · subst hb; rw [hH] at h; cases h; exact (n rfl).elim
      · rw [upd_ne hb]; exact h
    refine ⟨ps, hk h1 (fun z => ht0 ps z.symm), h2, fun pos cv hc => ?_⟩
    obtain ⟨c, e1, e2⟩ := h3 pos cv hc
    exact ⟨c, e1, hk e2 (fun z => hx0 _ z.symm)⟩
  · by_cases hb : b = a
    · subst hb; rw [upd_same] at h; cases h; exact (ht _ rfl).elim
    · rw [upd_ne hb] at h; exact S.ftab _ _ h
  · rcases cse h with ⟨e, e1⟩ | ⟨e, e1⟩
    · subst e
      subst e1
      exact ⟨_, ha, a, rfl, hn, fun b hb => by rw [fo' hb]; exact hf⟩
    · obtain ⟨w, e2, q⟩ := S.sl j s e1
      refine ⟨w, e2, ?_⟩
      cases s with
      | fz d => exact q
      | ow p =>
        obtain ⟨c, e3, _, h3⟩ := q
        subst e3
        obtain ⟨q1, q2, _⟩ := ownk j p c e e1 e2
        exact ⟨c, rfl, q1, fun b hb => h3 b ((q2 b).mp hb)⟩
  · rcases cse h1 with ⟨e, e1⟩ | ⟨e, e1⟩ <;> rcases cse h3 with ⟨g, g1⟩ | ⟨g, g1⟩
    · rw [e, g]
    · subst e; cases e1
      rw [ha] at h2; cases h2
      have hb := fo' h5
      subst hb
      exact (oth g g1 h4 (((ownk k p' c' g g1 h4).2.1 b).mp h6) rfl).elim
    · subst g; cases g1
      rw [ha] at h4; cases h4
      have hb := fo' h6
      subst hb
      exact (oth e e1 h2 (((ownk j p c e e1 h2).2.1 b).mp h5) rfl).elim
    · exact S.sep j k p p' c c' b e1 h2 g1 h4 (((ownk j p c e e1 h2).2.1 b).mp h5) (((ownk k p' c' g g1 h4).2.1 b).mp h6)
  · have : b ≠ a := fun z => by subst z; exact no ⟨i, o, b, hi, ha, fo⟩
    rw [upd_ne this]; exact ⟨h, hfb⟩
  · by_cases hb : b = a
    · subst hb; exact (fre_no upd_same ht h).elim
    · exact fun o e => h o (by rw [upd_ne hb]; exact e)
  · by_cases hj : j = i
    · subst hj; rw [hi] at h; cases h; exact (np rfl).elim
    · rw [List.getElem?_set_ne (Ne.symm hj)]; exact ⟨h, rfl⟩
theorem Stt.wrL (S : Stt A F H σ δ) {i : Nat} {ds : List D} {a : Addr} {vs : List V} (hi : δ[i]? = some (some (.ow (.lst ds)))) (ha : σ[i]? = some (some (.ref a))) (hH : H a = some (.lst vs)) (hf : F a = none) {ds' : List D} {vs' : List V} (hr : Reps A F ds' vs') :
    Stt A F (upd H a (.lst vs')) σ (δ.set i (some (.ow (.lst ds')))) ∧ Fr σ δ F H σ (δ.set i (some (.ow (.lst ds')))) F (upd H a (.lst vs')) :=
  S.wr hi ha (fun z => by cases z) (fun z => by cases z) hH (fun _ z => by cases z) (fun _ z => by cases z) (fun _ z => by cases z) hf ⟨vs', upd_same, hr⟩
theorem Stt.lst (S : Stt A F H σ δ) {i : Nat} {ds : List D} (hi : δ[i]? = some (some (.ow (.lst ds)))) : ∃ a vs, σ[i]? = some (some (.ref a)) ∧ H a = some (.lst vs) ∧ Reps A F ds vs ∧ F a = none := by
  obtain ⟨v, e, a, e1, ⟨vs, h1, h2⟩, h3⟩ := S.sl i _ hi
  subst e1
  exact ⟨a, vs, e, h1, h2, h3 a rfl⟩
end
/-- a method's argument, of a list that a name owns -/
def mApp (i : Nat) (g : GE) : GE := fun δ P X => (∃ ds, δ[i]? = some (some (.ow (.lst ds)))) ∧ g δ (fun r δ1 => vw r fun d => match δ1[i]? with
  | some (some (.ow (.lst ds))) => ds.length < 100000 ∧ P (.fz .non) (δ1.set i (some (.ow (.lst (ds ++ [d])))))
  | _ => False) X
def seqD : D → Option (List D)
  | .lst ds => some ds
  | .tup ds => some ds
  | _ => none
def mExt (i : Nat) (g : GE) : GE := fun δ P X => (∃ ds, δ[i]? = some (some (.ow (.lst ds)))) ∧ g δ (fun r δ1 => vw r fun d => match δ1[i]?, seqD d with
  | some (some (.ow (.lst ds))), some es => ds.length + es.length ≤ 100000 ∧ P (.fz .non) (δ1.set i (some (.ow (.lst (ds ++ es)))))
  | _, _ => False) X
def mPop (i : Nat) : GE := fun δ P _ => match δ[i]? with
  | some (some (.ow (.lst ds))) => match ds[ds.length - 1]? with
    | some d => P (.fz d) (δ.set i (some (.ow (.lst ds.dropLast))))
    | none => False
  | _ => False
/-- extend, by a list or a tuple -/
def rExt2 (K : PySem.W.Frag) : V → List V → Hp → VK → Prop := fun x vs H Q => ∃ l b xs zs, x = .ref l ∧ vs = [.ref b] ∧ H l = some (.lst xs) ∧ (H b = some (.lst zs) ∨ SqT K H b zs) ∧ xs.length + zs.length ≤ sizeLine ∧ Q .non (upd H l (.lst (xs ++ zs)))
theorem ext_tup (l : Addr) (items : Array Value) (n : Nat) (b : Addr) (items2 : Array Value) (n2 : Nat) (od : Option Addr) (osl : Array (Option Value)) (hs0 : ¬(!items.isEmpty && Builtin.List.listTooLong (items.size + items2.size)) = true) (hs1 : items.size ≤ sizeLine) (hs2 : items.size + items2.size ≤ sizeLine + 1) :
    Meets (Builtin.«list.extend» ⟨[.ref l, .ref b], []⟩) (fun _ R s => s.heap.get? l = some { cls := .type "list", dict := none, data := .seq items n, slots := #[] } ∧ s.heap.get? b = some { cls := .type "tuple", dict := od, data := .seq items2 n2, slots := osl } ∧ R (.ok (.ret Value.none)) { s with heap := s.heap.update l (Obj.mapSeq fun x => x ++ items2), toks := s.toks }) :=
  .of_wp fun prog w A R s h => by
    obtain ⟨hp, g, d, tk, os⟩ := s; obtain ⟨hl, hb, h⟩ := h; have f1 := AutoSeq1.idx_int; have f2 := AutoSeq1.sub_tuple_tuple; have f3 := AutoSeq1.sub_list_list; have f4 := AutoSeq1.sub_tuple_list; have f5 := AutoSeq1.sub_list_tuple
    have hz' : (items ++ items2).size ≤ sizeLine + 1 := by rw [Array.size_append]; exact hs2
    wp_walk using (wpAny_updateSeq hl rfl (hz := hs1) (_hz' := hz')), AutoSeq1.wpAny_loadPart' hl, AutoSeq1.wpAny_loadPart' hb
    exact ⟨_, rfl, h⟩
theorem mt_ext2 {X : Cx} : MtR X "list.extend" (rExt2 X.K) := by
  intro pins s σ H x vs v us Q I rx rv h
  obtain ⟨l, b, xs, zs, rfl, rfl, hH, hB, hz, q⟩ := h
  rcases hB with hB | hB
  · exact mt_extend pins s σ H _ _ v us Q I rx rv ⟨l, b, xs, zs, rfl, rfl, hH, hB, hz, q⟩
  · cases rx
    obtain ⟨u, rfl, ru⟩ := rv.one
    cases ru
    obtain ⟨z, its, n, r, hl, e⟩ := I.lstM hH
    obtain ⟨its2, r2, ⟨o, e2, e3, n2, e4⟩, hz2⟩ := I.tuple hB
    have hl2 := r2.length
    obtain ⟨oc, od, dt, sl⟩ := o
    simp only at e3 e4
    subst e3 e4
    have hsz : its.toArray.size + its2.toArray.size ≤ sizeLine := by rw [List.size_toArray, List.size_toArray]; omega
    have hlong : ¬ (!its.toArray.isEmpty && Builtin.List.listTooLong (its.toArray.size + its2.toArray.size)) = true := by
      rw [notLongL hsz, Bool.and_false]
      exact Bool.false_ne_true
    refine call_meets F.slot_list_extend ⟨_, e, rfl⟩ F.entry_list_extend (F.args_list_extend_2 _ _)
      (ext_tup l its.toArray n b its2.toArray n2 od sl hlong (by rw [List.size_toArray]; omega) (by omega)) ⟨e, e2, ?_⟩
    refine ⟨.non, _, I.lset (its' := its ++ its2) hH e (by simp) (r.append r2) ?_, rfl, q⟩
    rw [List.length_append]
    omega
section
variable {X : Cx} {A : Am} {E : XK} {e : Expr} {i : Nat} {g : GE} {p apos cpos pos : Pos} {x : Str}
theorem app_weak {σ : L2.St} {H : Hp} {Q : VK} (h : tE A E (mApp i g) σ H Q) : tBM X.K "list" rAppend (tVar i) (tCons (tE A E g) tNil) σ H Q := by
  obtain ⟨F, δ, P, Z, S, ⟨⟨ds, hi⟩, q⟩, k, kx⟩ := h
  obtain ⟨a, vs, ha, hH, hr, hf⟩ := S.lst hi
  refine ⟨.ref a, ha, .inl ⟨rfl, vs, sq_of hH⟩, F, δ, _, Z, S, q, fun r δ1 F1 H1 v q1 S1 f1 R => ?_, kx⟩
  obtain ⟨F2, dd, _, S2, f2, hr2, q2⟩ := frz_tmp S1 f1 R rfl q1
  split at q2
  · rename_i ds2 hi2
    obtain ⟨a2, vs2, ha2, hH2, hr3, hf2⟩ := S2.lst hi2
    rw [ha] at ha2; cases ha2
    obtain ⟨S3, f3⟩ := S2.wrL hi2 ha hH2 hf2 (hr3.append (.cons hr2 .nil))
    exact ⟨a, vs2, v, rfl, rfl, hH2, by rw [← hr3.length]; exact sz_lt q2.1, k _ _ _ _ _ q2.2 S3 (f2.trans f3) .non⟩
  · exact q2.elim
theorem ext_weak (hK : A.K = X.K) {σ : L2.St} {H : Hp} {Q : VK} (h : tE A E (mExt i g) σ H Q) : tBM X.K "list" (rExt2 X.K) (tVar i) (tCons (tE A E g) tNil) σ H Q := by
  obtain ⟨F, δ, P, Z, S, ⟨⟨ds, hi⟩, q⟩, k, kx⟩ := h
  obtain ⟨a, vs, ha, hH, hr, hf⟩ := S.lst hi
  refine ⟨.ref a, ha, .inl ⟨rfl, vs, sq_of hH⟩, F, δ, _, Z, S, q, fun r δ1 F1 H1 v q1 S1 f1 R => ?_, kx⟩
  obtain ⟨F2, dd, _, S2, f2, hr2, q2⟩ := frz_tmp S1 f1 R rfl q1
  split at q2
  · rename_i ds2 es hi2 hs
    obtain ⟨a2, vs2, ha2, hH2, hr3, hf2⟩ := S2.lst hi2
    rw [ha] at ha2; cases ha2
    have main : ∀ (b : Addr) (zs : List V), v = .ref b → (H1 b = some (.lst zs) ∨ SqT X.K H1 b zs) → Reps A F2 es zs → rAppend = rAppend ∧ (∃ l b xs zs, V.ref a = .ref l ∧ [v] = [.ref b] ∧ H1 l = some (.lst xs) ∧ (H1 b = some (.lst zs) ∨ SqT X.K H1 b zs) ∧ xs.length + zs.length ≤ sizeLine ∧ Q .non (upd H1 l (.lst (xs ++ zs)))) := fun b zs e hb hz => by
      subst e
      obtain ⟨S3, f3⟩ := S2.wrL hi2 ha hH2 hf2 (hr3.append hz)
      exact ⟨rfl, a, b, vs2, zs, rfl, rfl, hH2, hb, by rw [← hr3.length, ← hz.length]; exact sz_of q2.1, k _ _ _ _ _ q2.2 S3 (f2.trans f3) .non⟩
    cases hr2 with
    | lst h r => cases hs; exact (main _ _ rfl (.inl (S2.sub _ _ h)) r).2
    | tup h r => cases hs; exact (main _ _ rfl (.inr (hK ▸ ex_t S2.sub h)) r).2
    | _ => cases hs
  · exact q2.elim
theorem de_app (ho : PE X (.Name x p) (tVar i)) (he : PE X e (tE A E g)) 
    (hbase : attributeBase (.Name x p) "append" X.env (eval (.Name x p) X.env) = eval (.Name x p) X.env := by rfl)
    (hfew : ((backTo cpos (starEach [e] X.env)).all (fun x => !x.1) && (backToKw cpos (keywordEach [] X.env)).all (fun x => x.1.isSome)
      && decide (([e] : List Expr).length + ([] : List Keyword).length + (if ([] : List Keyword).isEmpty then 0 else 1) < 30)) = true := by rfl)
    (hline : (apos.endLine == cpos.line) = true := by rfl) (hs : starEach [e] X.env = (false, eval e X.env) :: starEach [] X.env := by rfl) (hplain : (backTo cpos (starEach [] X.env)).any (·.1) = false := by rfl) :
    PE X (.Call (.Attribute (.Name x p) "append" apos) [e] [] cpos) (tE A E (mApp i g)) :=
  pe_weak (pe_bm F.plainAttrs_list F.slot_list_append F.type_list_append mt_append ho (pa_cons he pa_nil hs) hbase hfew hline hs hplain) fun _ _ _ h => app_weak h
theorem de_ext (hK : A.K = X.K) (ho : PE X (.Name x p) (tVar i)) (he : PE X e (tE A E g)) 
    (hbase : attributeBase (.Name x p) "extend" X.env (eval (.Name x p) X.env) = eval (.Name x p) X.env := by rfl)
    (hfew : ((backTo cpos (starEach [e] X.env)).all (fun x => !x.1) && (backToKw cpos (keywordEach [] X.env)).all (fun x => x.1.isSome)
      && decide (([e] : List Expr).length + ([] : List Keyword).length + (if ([] : List Keyword).isEmpty then 0 else 1) < 30)) = true := by rfl)
    (hline : (apos.endLine == cpos.line) = true := by rfl) (hs : starEach [e] X.env = (false, eval e X.env) :: starEach [] X.env := by rfl) (hplain : (backTo cpos (starEach [] X.env)).any (·.1) = false := by rfl) :
    PE X (.Call (.Attribute (.Name x p) "extend" apos) [e] [] cpos) (tE A E (mExt i g)) :=
  pe_weak (pe_bm F.plainAttrs_list F.slot_list_extend F.type_list_extend mt_ext2 ho (pa_cons he pa_nil hs) hbase hfew hline hs hplain) fun _ _ _ h => ext_weak hK h
theorem de_pop (ho : PE X (.Name x p) (tVar i)) 
    (hbase : attributeBase (.Name x p) "pop" X.env (eval (.Name x p) X.env) = eval (.Name x p) X.env := by rfl) (hline : (apos.endLine == cpos.line) = true := by rfl) :
    PE X (.Call (.Attribute (.Name x p) "pop" apos) [] [] cpos) (tE A E (mPop i)) :=
  pe_weak (pe_bm0 F.plainAttrs_list F.slot_list_pop F.type_list_pop mt_pop ho hbase hline) fun σ H Q ⟨F, δ, P, Z, S, q, k, kx⟩ => by
    unfold mPop at q
    split at q
    · rename_i ds hi
      split at q
      · rename_i d hd
        obtain ⟨a, vs, ha, hH, hr, hf⟩ := S.lst hi
        obtain ⟨v, hv, hrv⟩ := hr.get hd
        have hrd : Reps A F ds.dropLast vs.dropLast := by
          rw [List.dropLast_eq_take, List.dropLast_eq_take, ← hr.length]
          exact hr.take _
        obtain ⟨S3, f3⟩ := S.wrL hi ha hH hf hrd
        exact ⟨.ref a, ha, .inl ⟨rfl, vs, sq_of hH⟩, a, vs, v, rfl, rfl, hH, by rw [← hr.length]; exact hv, k _ _ _ _ _ q S3 f3 hrv⟩
      · exact q.elim
    · exact q.elim
end
end DL
namespace DL
open PySem L2 Evl PySem.Spec PyProof.Rows

/-! ### keys, dicts -/
def keyD : D → Option Key
  | .int i => some (.inl i)
  | .str s => some (.inr s)
  | _ => none
def hasD (kvs : List (D × D)) (k : Key) : Bool := kvs.any fun p => decide (keyD p.1 = some k)
def getD' (kvs : List (D × D)) (k : Key) : Option D := (kvs.find? fun p => decide (keyD p.1 = some k)).map (·.2)
def putD (kvs : List (D × D)) (k : Key) (v : D) : List (D × D) := if hasD kvs k then kvs.map (fun p => if keyD p.1 = some k then (p.1, v) else p) else kvs ++ [(kD k, v)]
theorem key_kD (k : Key) : keyD (kD k) = some k := by cases k <;> rfl
theorem kD_keyD {d : D} {k : Key} (h : keyD d = some k) : d = kD k := by
  cases d with
  | int i => cases h; rfl
  | str s => cases h; rfl
  | _ => exact (by cases h)
section
variable {A : Am} {F F' H H' : Hp} {σ : L2.St} {δ : Env} {v : V}
theorem RepK.get {ds : List (D × D)} {vs : List (Key × V)} (h : RepK A F ds vs) (k : Key) : hasD ds k = (valV vs k).isSome ∧ ∀ d, getD' ds k = some d → ∃ v, valV vs k = some v ∧ Rep A F d v := by
  induction vs generalizing ds with
  | nil => cases h; exact ⟨rfl, fun d h => by cases h⟩
  | cons p vs ih =>
    cases h with
    | @cons k' d v ds _ h hs =>
      obtain ⟨i1, i2⟩ := ih hs
      by_cases e : k' = k
      · subst e
        rw [valV_pos rfl]
        exact ⟨by simp [hasD, key_kD], fun d' h' => by
          simp [getD', key_kD] at h'
          subst h'; exact ⟨v, rfl, h⟩⟩
      · rw [valV_neg e]
        have e' : decide (keyD (kD k') = some k) = false := by rw [key_kD]; simpa using e
        exact ⟨by unfold hasD at i1 ⊢; rw [List.any_cons, e', Bool.false_or]; exact i1, fun d' h' => i2 d' (by
          unfold getD' at h' ⊢
          rwa [List.find?_cons, e'] at h')⟩
theorem RepK.put {ds : List (D × D)} {vs : List (Key × V)} (h : RepK A F ds vs) (k : Key) {d : D} (hv : Rep A F d v) : RepK A F (putD ds k d) (putK vs k v) := by
  have i1 := (h.get k).1
  have ap : ∀ {ds : List (D × D)} {vs : List (Key × V)}, RepK A F ds vs → RepK A F (ds ++ [(kD k, d)]) (vs ++ [(k, v)]) := fun {ds vs} h => by
    induction vs generalizing ds with
    | nil => cases h; exact .cons hv .nil
    | cons p vs ih => cases h with | cons h hs => exact .cons h (ih hs)
  have mp : ∀ {ds : List (D × D)} {vs : List (Key × V)}, RepK A F ds vs → RepK A F (ds.map fun p => if keyD p.1 = some k then (p.1, d) else p) (vs.map fun kv => if kv.1 = k then (kv.1, v) else kv) := fun {ds vs} h => by
    induction vs generalizing ds with
    | nil => cases h; exact .nil
    | cons p vs ih =>
      cases h with
      | @cons k' d' v' ds _ h hs =>
        by_cases e : k' = k
        · subst e
          simp only [List.map_cons, key_kD, if_true]
          exact .cons hv (ih hs)
        · have e' : ¬ keyD (kD k') = some k := by rw [key_kD]; simpa using e
          simp only [List.map_cons, if_neg e', if_neg e]
          exact .cons h (ih hs)
  unfold putD putK
  rw [i1, ← valV_any]
  split
  · exact mp h
  · exact ap h
theorem RepK.length {ds : List (D × D)} {vs : List (Key × V)} (h : RepK A F ds vs) : ds.length = vs.length := by
  have := congrArg List.length h.keys
  simpa using this
theorem kD_kV {k : Key} {d : D} (h : keyD d = some k) (r : ArgAt A F H d v) : v = kV k := by
  have := kD_keyD h
  subst this
  cases k with
  | inl i => exact arg_int r
  | inr s => exact arg_str r
end
/-- in, not in: a list or a tuple of data, a dict -/
def dIn2 (neg : Bool) : Op2 := fun a b k => match b with
  | .dct kvs => match keyD a with
    | some y => k (.fz (.bl (xor neg (hasD kvs y))))
    | none => False
  | .lst ds => a.ok = true ∧ b.ok = true ∧ k (.fz (.bl (xor neg (ds.any fun z => PyData.eqv z.py a.py))))
  | .tup ds => a.ok = true ∧ b.ok = true ∧ k (.fz (.bl (xor neg (ds.any fun z => PyData.eqv z.py a.py))))
  | _ => False
def rInA (K : PySem.W.Frag) (neg : Bool) : R2 := fun x y H Q => (∃ d ds, Dp K H x d ∧ (Dp K H y (.list ds) ∧ SeqAt.shaped (.list ds) = true ∨ Dp K H y (.tuple ds) ∧ SeqAt.shaped (.tuple ds) = true) ∧ SeqAt.shaped d = true ∧ Q (.bl (xor neg (ds.any fun z => PyData.eqv z d))) H) ∨
  ∃ a o, y = .ref a ∧ DGet H a x o ∧ Q (.bl (xor neg o.isSome)) H
section
variable {X : Cx} {A : Am}
theorem op_inA (hu : X.A.units + 65 < cLine) : OpR X (compareOp .In) (rInA X.K false) := by
  intro pins s σ H x y v u Q I rx ry h
  rcases h with ⟨d, ds, hd, he, sd, q⟩ | ⟨a, o, rfl, g, q⟩
  · rcases he with ⟨he, se⟩ | ⟨he, se⟩
    · exact op_inD hu pins s σ H x y v u Q I rx ry ⟨d, ds, hd, he, sd, se, by simpa using q⟩
    · obtain ⟨as, r1⟩ := Dp.reads I d x v hd rx
      obtain ⟨bs, r2⟩ := Dp.reads I (.tuple ds) y u he ry
      exact SeqAt.in_tuple_reads r2 r1 (SeqAt.canLay_of_shaped se) (SeqAt.canLay_of_shaped sd) (room_in_shaped sd hu) ⟨.bl _, H, I, rfl, by simpa using q⟩
  · cases ry
    exact d_in (by omega) I g rx fun s' I' => ⟨.bl _, H, I', rfl, by simpa using q⟩
theorem op_notInA (hu : X.A.units + 65 < cLine) : OpR X (compareOp .NotIn) (rInA X.K true) := by
  intro pins s σ H x y v u Q I rx ry h
  rcases h with ⟨d, ds, hd, he, sd, q⟩ | ⟨a, o, rfl, g, q⟩
  · rcases he with ⟨he, se⟩ | ⟨he, se⟩
    · exact op_notInD hu pins s σ H x y v u Q I rx ry ⟨d, ds, hd, he, sd, se, by simpa using q⟩
    · obtain ⟨as, r1⟩ := Dp.reads I d x v hd rx
      obtain ⟨bs, r2⟩ := Dp.reads I (.tuple ds) y u he ry
      exact SeqAt.notIn_tuple_reads r2 r1 (SeqAt.canLay_of_shaped se) (SeqAt.canLay_of_shaped sd) (room_in_shaped sd hu) ⟨.bl _, H, I, rfl, by simpa using q⟩
  · cases ry
    exact d_notIn (by omega) I g rx fun s' I' => ⟨.bl _, H, I', rfl, by simpa using q⟩
theorem Ex.rd {F H : Hp} (s : Ex F H) {a : Addr} {u : HO} (h : Rd F a u) : Rd H a u := by
  rcases h with h | ⟨o, h⟩
  · exact .inl (s _ _ h)
  · exact .inr ⟨o, s _ _ h⟩
theorem arg_dct {A : Am} {F H : Hp} {v : V} {kvs : List (D × D)} (s : Ex F H) (h : ArgAt A F H (.dct kvs) v) : ∃ a vs, v = .ref a ∧ Rd H a (.dK vs) ∧ RepK A F kvs vs := by
  cases h with
  | rep h =>
    cases h with
    | dctK h r => exact ⟨_, _, rfl, Ex.rd s h, r⟩
  | dctK h r => exact ⟨_, _, rfl, .inl h, r⟩

theorem keyD_isKy {d : D} {k : Key} (h : keyD d = some k) : d = kD k := kD_keyD h
theorem od_in {K : PySem.W.Frag} (hK : K = A.K) (neg : Bool) : OpD A (rInA K neg) (dIn2 neg) := fun F H d1 d2 v1 v2 k Q s a1 a2 q h => by
  subst hK
  have seq : ∀ {ds : List D} {py : PyData}, d1.ok = true → d2.ok = true → d2.py = py → (py = .list (D.pys ds) ∨ py = .tuple (D.pys ds)) → k (.fz (.bl (xor neg (ds.any fun z => PyData.eqv z.py d1.py)))) → rInA A.K neg v1 v2 H Q := fun {ds py} o1 o2 e hp q => by
    have p1 := dp_arg s (by unfold D.ok at o1; rw [Bool.and_eq_true] at o1; exact o1.1) a1
    have p2 := dp_arg s (by unfold D.ok at o2; rw [Bool.and_eq_true] at o2; exact o2.1) a2
    have z1 := ok_shaped o1
    have z2 := ok_shaped o2
    rw [e] at p2 z2
    refine .inl ⟨_, D.pys ds, p1, ?_, z1, h _ _ _ _ (by rw [pys_map, List.any_map]; exact q) (new_fz s (.bl _))⟩
    rcases hp with hp | hp
    · subst hp; exact .inl ⟨p2, z2⟩
    · subst hp; exact .inr ⟨p2, z2⟩
  cases d2 with
  | lst ds => exact seq q.1 q.2.1 (by rw [D.py]) (.inl rfl) q.2.2
  | tup ds => exact seq q.1 q.2.1 (by rw [D.py]) (.inr rfl) q.2.2
  | dct kvs =>
    simp only [dIn2] at q
    cases hk : keyD d1 with
    | none => rw [hk] at q; exact q.elim
    | some y =>
      rw [hk] at q
      obtain ⟨a, vs, rfl, ha, r⟩ := arg_dct s a2
      have hv := kD_kV hk a1
      subst hv
      exact .inr ⟨a, _, rfl, .inl ⟨vs, y, ha, rfl, rfl⟩, h _ _ _ _ (by rw [← (r.get y).1]; exact q) (new_fz s (.bl _))⟩
  | _ => exact (q : False).elim
/-! ### built-in functions -/
def orC (r1 r2 : List V → Hp → VK → Prop) : List V → Hp → VK → Prop := fun xs H Q => r1 xs H Q ∨ r2 xs H Q
theorem cr_or {f : Value} {r1 r2 : List V → Hp → VK → Prop} (h1 : CallR X f r1) (h2 : CallR X f r2) : CallR X f (orC r1 r2) := fun pins s σ H xs us Q I r h => by
  rcases h with h | h
  · exact h1 pins s σ H xs us Q I r h
  · exact h2 pins s σ H xs us Q I r h
def rLenD : List V → Hp → VK → Prop := fun xs H Q => ∃ (a : Addr) (vs : List (Key × V)), xs = [.ref a] ∧ Rd H a (.dK vs) ∧ Q (.int (vs.length : Int)) H
theorem cr_lenD : CallR X (.builtin "len") rLenD := by
  intro pins s σ H xs us Q I r h
  obtain ⟨a, vs, rfl, ha, q⟩ := h
  rw [Vals.ref1 r]
  exact d_len I ha fun t s' I' => ⟨.int _, H, I', ⟨t, rfl⟩, q⟩
def rLenA (K : PySem.W.Frag) : List V → Hp → VK → Prop := orC (fun xs H Q => ∃ x n, xs = [x] ∧ LenV K x H n ∧ Q (.int n) H) rLenD
theorem cr_lenA : CallR X (.builtin "len") (rLenA X.K) := cr_or call_len cr_lenD
def nLen : OpN := fun ds k => match ds with
  | [.lst xs] => k (.fz (.int xs.length))
  | [.tup xs] => k (.fz (.int xs.length))
  | [.dct xs] => k (.fz (.int xs.length))
  | [.str s] => s.length ≤ 1000000 ∧ k (.fz (.int s.length))
  | _ => False
theorem args1 {F H : Hp} {d : D} {vs : List V} (h : ArgsAt A F H [d] vs) : ∃ v, vs = [v] ∧ ArgAt A F H d v := by
  cases h with
  | cons h h' => cases h'; exact ⟨_, rfl, h⟩
theorem args2 {F H : Hp} {d e : D} {vs : List V} (h : ArgsAt A F H [d, e] vs) : ∃ v w, vs = [v, w] ∧ ArgAt A F H d v ∧ ArgAt A F H e w := by
  cases h with
  | cons h h' =>
    obtain ⟨w, rfl, h2⟩ := args1 h'
    exact ⟨_, w, rfl, h, h2⟩
/-- a list or a tuple, looked at -/
theorem arg_seq {F H : Hp} {d : D} {v : V} {ds : List D} (s : Ex F H) (h : ArgAt A F H d v) (hd : seqD d = some ds) : ∃ a vs, v = .ref a ∧ (SqL A.K H a vs ∨ SqT A.K H a vs) ∧ Reps A F ds vs := by
  cases h with
  | rep h =>
    cases h with
    | tup h r => cases hd; exact ⟨_, _, rfl, .inr (ex_t s h), r⟩
    | lst h r => cases hd; exact ⟨_, _, rfl, .inl (sq_of (s _ _ h)), r⟩
    | _ => cases hd
  | lst h r => cases hd; exact ⟨_, _, rfl, .inl (sq_of h), r⟩
  | _ => cases hd
theorem cd_len {K : PySem.W.Frag} (hK : K = A.K) : CaD A (rLenA K) nLen := fun F H ds vs k Q s a q h => by
  subst hK
  unfold nLen at q
  split at q
  · rename_i xs
    obtain ⟨v, rfl, b⟩ := args1 a
    obtain ⟨p, vs, rfl, hp, r⟩ := arg_seq s b rfl
    refine .inl ⟨_, vs.length, rfl, ?_, by rw [← r.length]; exact h _ _ _ _ q (new_fz s (.int _))⟩
    rcases hp with hp | hp
    · exact .inl ⟨vs, hp, rfl⟩
    · exact .inr ⟨vs, hp, rfl⟩
  · rename_i xs
    obtain ⟨v, rfl, b⟩ := args1 a
    obtain ⟨p, vs, rfl, hp, r⟩ := arg_seq s b rfl
    refine .inl ⟨_, vs.length, rfl, ?_, by rw [← r.length]; exact h _ _ _ _ q (new_fz s (.int _))⟩
    rcases hp with hp | hp
    · exact .inl ⟨vs, hp, rfl⟩
    · exact .inr ⟨vs, hp, rfl⟩
  · rename_i xs
    obtain ⟨v, rfl, b⟩ := args1 a
    obtain ⟨p, vs, rfl, hp, r⟩ := arg_dct s b
    exact .inr ⟨p, vs, rfl, hp, by rw [← r.length]; exact h _ _ _ _ q (new_fz s (.int _))⟩
  · rename_i x
    obtain ⟨v, rfl, b⟩ := args1 a
    cases arg_str b
    exact .inl ⟨_, _, rfl, ⟨sz_big q.1, rfl⟩, h _ _ _ _ q.2 (new_fz s (.int _))⟩
  · exact q.elim
/-- list(x), tuple(x) -/
def rListA (K : PySem.W.Frag) : List V → Hp → VK → Prop := orC (fun xs H Q => ∃ p ys, xs = [.ref p] ∧ (SqL K H p ys ∨ SqT K H p ys) ∧ ∀ l, H l = none → Q (.ref l) (upd H l (.lst ys)))
  (fun xs H Q => ∃ (a : Addr) (kvs : List (Key × V)), xs = [.ref a] ∧ Rd H a (.dK kvs) ∧ ∀ p, H p = none → Q (.ref p) (upd H p (.lst (kvs.map fun kv => kV kv.1))))
theorem cr_listA (hc : X.calm = true) : CallR X (.type "list") (rListA X.K) := cr_or call_list_of (call_listD hc)
def nList : OpN := fun ds k => match ds with
  | [.lst xs] => k (.ow (.lst xs))
  | [.tup xs] => k (.ow (.lst xs))
  | [.dct kvs] => k (.ow (.lst (kvs.map (·.1))))
  | _ => False
theorem RepK.keysR {F : Hp} {ds : List (D × D)} {vs : List (Key × V)} (h : RepK A F ds vs) : Reps A F (ds.map (·.1)) (vs.map fun kv => kV kv.1) := by
  induction vs generalizing ds with
  | nil => cases h; exact .nil
  | cons p vs ih => cases h with | cons h hs => exact .cons (rep_kD _) (ih hs)
theorem cd_list {K : PySem.W.Frag} (hK : K = A.K) : CaD A (rListA K) nList := fun F H ds vs k Q s a q h => by
  subst hK
  unfold nList at q
  split at q
  · rename_i xs
    obtain ⟨v, rfl, b⟩ := args1 a
    obtain ⟨p, vs, rfl, hp, r⟩ := arg_seq s b rfl
    exact .inl ⟨p, vs, rfl, hp, fun l hl => h _ _ _ _ q (new_lst s hl r)⟩
  · rename_i xs
    obtain ⟨v, rfl, b⟩ := args1 a
    obtain ⟨p, vs, rfl, hp, r⟩ := arg_seq s b rfl
    exact .inl ⟨p, vs, rfl, hp, fun l hl => h _ _ _ _ q (new_lst s hl r)⟩
  · rename_i xs
    obtain ⟨v, rfl, b⟩ := args1 a
    obtain ⟨p, vs, rfl, hp, r⟩ := arg_dct s b
    exact .inr ⟨p, vs, rfl, hp, fun l hl => h _ _ _ _ q (new_lst s hl r.keysR)⟩
  · exact q.elim
def rTupA (K : PySem.W.Frag) : List V → Hp → VK → Prop := fun xs H Q => ∃ p ys, xs = [.ref p] ∧ ((SqL K H p ys ∧ ∀ l, H l = none → Q (.ref l) (upd H l (.tup ys))) ∨ (SqT K H p ys ∧ Q (.ref p) H))
def nTup : OpN := fun ds k => match ds with
  | [.lst xs] => k (.fz (.tup xs))
  | [.tup xs] => k (.fz (.tup xs))
  | _ => False
theorem cd_tup {K : PySem.W.Frag} (hK : K = A.K) : CaD A (rTupA K) nTup := fun F H ds vs k Q s a q h => by
  subst hK
  unfold nTup at q
  split at q
  · rename_i xs
    obtain ⟨v, rfl, b⟩ := args1 a
    have main : ∀ {p : Addr} {ys : List V}, SqL A.K H p ys → Reps A F xs ys → rTupA A.K [.ref p] H Q := fun {p ys} hp r => ⟨p, ys, rfl, .inl ⟨hp, fun l hl => h _ _ _ _ q (new_tup s hl r)⟩⟩
    cases b with
    | rep b => cases b with | lst hh r => exact main (sq_of (s _ _ hh)) r
    | lst hh r => exact main (sq_of hh) r
  · rename_i xs
    obtain ⟨v, rfl, b⟩ := args1 a
    cases b with
    | rep b => cases b with | tup hh r => exact ⟨_, _, rfl, .inr ⟨ex_t s hh, h _ _ _ _ q (new_fz s (.tup hh r))⟩⟩
  · exact q.elim
/-- lists of ints, of bools -/
def intsD : List D → Option (List Int)
  | [] => some []
  | .int i :: ds => (intsD ds).map (i :: ·)
  | _ => none
def blsD : List D → Option (List Bool)
  | [] => some []
  | .bl i :: ds => (blsD ds).map (i :: ·)
  | _ => none
theorem ints_at {F : Hp} : ∀ {ds : List D} {vs : List V} {ns : List Int}, Reps A F ds vs → intsD ds = some ns → vs = ns.map V.int
  | [], _, _, .nil, h => by cases h; rfl
  | .int i :: ds, _, ns, .cons h hs, e => by
    simp only [intsD, Option.map_eq_some_iff] at e
    obtain ⟨l, e, rfl⟩ := e
    cases h
    rw [ints_at hs e]; rfl
theorem bls_at {F : Hp} : ∀ {ds : List D} {vs : List V} {ns : List Bool}, Reps A F ds vs → blsD ds = some ns → vs = ns.map V.bl
  | [], _, _, .nil, h => by cases h; rfl
  | .bl i :: ds, _, ns, .cons h hs, e => by
    simp only [blsD, Option.map_eq_some_iff] at e
    obtain ⟨l, e, rfl⟩ := e
    cases h
    rw [bls_at hs e]; rfl
theorem ints_rep {F : Hp} : ∀ (ns : List Int), Reps A F (ns.map D.int) (ns.map V.int)
  | [] => .nil
  | n :: ns => .cons (.int n) (ints_rep ns)
theorem arg_l {F H : Hp} {v : V} {ds : List D} (s : Ex F H) (h : ArgAt A F H (.lst ds) v) : ∃ a vs, v = .ref a ∧ SqL A.K H a vs ∧ Reps A F ds vs := by
  cases h with
  | rep h => cases h with | lst h r => exact ⟨_, _, rfl, sq_of (s _ _ h), r⟩
  | lst h r => exact ⟨_, _, rfl, sq_of h, r⟩
def nSum : OpN := fun ds k => match ds with
  | [.lst xs] => ∃ ns, intsD xs = some ns ∧ k (.fz (.int ns.sum))
  | _ => False
theorem cd_sum {K : PySem.W.Frag} (hK : K = A.K) : CaD A (rSum K) nSum := fun F H ds vs k Q s a q h => by
  subst hK
  unfold nSum at q
  split at q
  · obtain ⟨ns, e, q⟩ := q
    obtain ⟨v, rfl, b⟩ := args1 a
    obtain ⟨p, vs, rfl, hp, r⟩ := arg_l s b
    rw [ints_at r e] at hp
    exact ⟨p, ns, rfl, hp, h _ _ _ _ q (new_fz s (.int _))⟩
  · exact q.elim
def nAll : OpN := fun ds k => match ds with
  | [.lst xs] => ∃ ns, blsD xs = some ns ∧ k (.fz (.bl (ns.all id)))
  | _ => False
def nAny : OpN := fun ds k => match ds with
  | [.lst xs] => ∃ ns, blsD xs = some ns ∧ k (.fz (.bl (ns.any id)))
  | _ => False
theorem cd_all {K : PySem.W.Frag} (hK : K = A.K) : CaD A (rAll K) nAll := fun F H ds vs k Q s a q h => by
  subst hK
  unfold nAll at q
  split at q
  · obtain ⟨ns, e, q⟩ := q
    obtain ⟨v, rfl, b⟩ := args1 a
    obtain ⟨p, vs, rfl, hp, r⟩ := arg_l s b
    rw [bls_at r e] at hp
    exact ⟨p, ns, rfl, hp, h _ _ _ _ q (new_fz s (.bl _))⟩
  · exact q.elim
theorem cd_any {K : PySem.W.Frag} (hK : K = A.K) : CaD A (rAny K) nAny := fun F H ds vs k Q s a q h => by
  subst hK
  unfold nAny at q
  split at q
  · obtain ⟨ns, e, q⟩ := q
    obtain ⟨v, rfl, b⟩ := args1 a
    obtain ⟨p, vs, rfl, hp, r⟩ := arg_l s b
    rw [bls_at r e] at hp
    exact ⟨p, ns, rfl, hp, h _ _ _ _ q (new_fz s (.bl _))⟩
  · exact q.elim
/-- sorted(ints), of a list or a dict's keys -/
def nSort : OpN := fun ds k => match ds with
  | [.lst xs] => ∃ ns, intsD xs = some ns ∧ ∀ ns' : List Int, ns'.Perm ns → ns'.Pairwise (· ≤ ·) → k (.ow (.lst (ns'.map D.int)))
  | [.dct kvs] => ∃ ns, intsD (kvs.map (·.1)) = some ns ∧ ns.length < 64 ∧ ∀ ns' : List Int, ns'.Perm ns → ns'.Pairwise (· ≤ ·) → k (.ow (.lst (ns'.map D.int)))
  | _ => False
end
end DL
namespace DL
open PySem L2 Evl PySem.Spec PyProof.Rows
section
variable {X : Cx} {A : Am}
/-! ### sorted -/
def rSortA (K : PySem.W.Frag) : List V → Hp → VK → Prop := orC (rSortedI K) (fun xs H Q => ∃ (a : Addr) (kvs : List (Key × V)) (ks : List Int), xs = [.ref a] ∧ Rd H a (.dK kvs) ∧ kvs.map (·.1) = ks.map Sum.inl ∧ ks.length < 64 ∧
    ∀ (ys : List Int) (p : Addr), ys.Perm ks → ys.Pairwise (· ≤ ·) → H p = none → Q (.ref p) (upd H p (.lst (ys.map V.int))))
theorem cr_sortA (hc : X.calm = true) : CallR X (.builtin "sorted") (rSortA X.K) := cr_or cr_sortedI (call_sortedDI hc)
theorem ints_keys {F : Hp} : ∀ {ds : List (D × D)} {vs : List (Key × V)} {ns : List Int}, RepK A F ds vs → intsD (ds.map (·.1)) = some ns → vs.map (·.1) = ns.map Sum.inl
  | [], _, _, .nil, h => by cases h; rfl
  | _ :: ds, _, ns, @RepK.cons _ _ k d v _ vs h hs, e => by
    cases k with
    | inl i =>
      simp only [List.map_cons, kD, intsD, Option.map_eq_some_iff] at e
      obtain ⟨l, e, rfl⟩ := e
      simp only [List.map_cons, ints_keys hs e]
    | inr z => simp [kD, intsD] at e
theorem cd_sort {K : PySem.W.Frag} (hK : K = A.K) : CaD A (rSortA K) nSort := fun F H ds vs k Q s a q h => by
  subst hK
  unfold nSort at q
  split at q
  · obtain ⟨ns, e, q⟩ := q
    obtain ⟨v, rfl, b⟩ := args1 a
    obtain ⟨p, vs, rfl, hp, r⟩ := arg_l s b
    rw [ints_at r e] at hp
    exact .inl ⟨p, ns, rfl, hp, fun ns' l h1 h2 hl => h _ _ _ _ (q ns' h1 h2) (new_lst s hl (ints_rep ns'))⟩
  · obtain ⟨ns, e, h64, q⟩ := q
    obtain ⟨v, rfl, b⟩ := args1 a
    obtain ⟨p, vs, rfl, hp, r⟩ := arg_dct s b
    exact .inr ⟨p, vs, ns, rfl, hp, ints_keys r e, h64, fun ns' l h1 h2 hl => h _ _ _ _ (q ns' h1 h2) (new_lst s hl (ints_rep ns'))⟩
  · exact q.elim
/-- sorted(set(x)), x a list or a tuple of ints -/
def nSSet : OpN := fun ds k => match ds with
  | [x] => ∃ xs ns, seqD x = some xs ∧ intsD xs = some ns ∧ ns.length < 64 ∧ ∀ ns' : List Int, ns'.Pairwise (· < ·) → (∀ i, i ∈ ns' ↔ i ∈ ns) → k (.ow (.lst (ns'.map D.int)))
  | _ => False
def tSSet (K : PySem.W.Frag) (w : World) (t : TA) : TE := tCB (rSortedSet w) (tCons (tCB (rSetI K w) t) tNil)
theorem de_sset {E : XK} {gs : GA} {e : Expr} (hK : A.K = X.K) (h : PE X e (tSSet X.K X.w (tAr A E gs))) : PE X e (tE A E (eCa nSSet gs)) :=
  pe_weak h fun σ H Q ⟨F, δ, P, Z, S, q, k, kx⟩ => ⟨F, δ, _, Z, S, q, fun hs δ1 F1 H1 vs q1 S1 f1 a1 => by
    obtain ⟨ds, r1, q3⟩ := rsls_at S1 a1 q1
    unfold nSSet at q3
    split at q3
    · obtain ⟨xs, ns, e1, e2, hl, q4⟩ := q3
      obtain ⟨v, rfl, b⟩ := args1 r1
      obtain ⟨p, vs, rfl, hp, r⟩ := arg_seq S1.sub b e1
      rw [ints_at r e2, hK] at hp
      refine ⟨p, ns, rfl, hp, by omega, fun a c ha hcn => ?_⟩
      refine ⟨a, _, c, rfl, upd_same, by omega, fun ns' l h1 h2 h3 hl' => ?_⟩
      have hla : l ≠ a := fun z => by subst z; rw [upd_same] at hl'; cases hl'
      rw [upd_ne hla] at hl'
      have n1 : New A F1 H1 F1 (upd (upd H1 a (SetO X.w a (fun j => decide (j ∈ ns)) c)) l (.lst (ns'.map V.int))) (.ow (.lst (ns'.map D.int))) (.ref l) := by
        have fn : ∀ b, H1 b = none → F1 b = none := fun b hb => by
          cases e : F1 b with
          | none => rfl
          | some u => rw [S1.sub _ _ e] at hb; cases hb
        have hup : Ex H1 (upd (upd H1 a (SetO X.w a (fun j => decide (j ∈ ns)) c)) l (.lst (ns'.map V.int))) := (Ex.new ha).trans (Ex.new (by rw [upd_ne hla]; exact hl'))
        refine ⟨Ex.refl _, hup, S1.sub.trans hup, fun _ _ => rfl, fun b ps z => ?_, l, rfl, ⟨_, upd_same, ints_rep ns'⟩, fun b hb => ?_⟩
        · by_cases hb : b = l
          · subst hb; rw [upd_same] at z; cases z
          · rw [upd_ne hb] at z
            by_cases hb2 : b = a
            · subst hb2; rw [upd_same] at z; cases z
            · rw [upd_ne hb2] at z; exact z
        · cases hb; exact ⟨fn _ hl', hl'⟩
      obtain ⟨S3, f3, R⟩ := n1.stt S1
      exact k _ _ _ _ _ (q4 ns' h1 (fun i => by rw [h2]; simp)) S3 (f1.trans f3) (R.back f1)
    · exact q3.elim, kx⟩
/-! ### dict of pairs -/
def pairsD : List D → Option (List (Key × D))
  | [] => some []
  | .tup [a, b] :: ds => match keyD a, pairsD ds with
    | some k, some r => some ((k, b) :: r)
    | _, _ => none
  | _ => none
def mergeD (acc : List (D × D)) (ps : List (Key × D)) : List (D × D) := ps.foldl (fun acc kv => putD acc kv.1 kv.2) acc
def rDictP (K : PySem.W.Frag) : List V → Hp → VK → Prop := fun xs H Q => ∃ (a : Addr) (ps : List Addr) (kvs : List (Key × V)), xs = [.ref a] ∧ SqL K H a (ps.map V.ref) ∧ Paired (fun p kv => SqT K H p [kV kv.1, kv.2]) ps kvs ∧
    ∀ p, H p = none → Q (.ref p) (upd H p (.dK (mergeK [] kvs)))
theorem cr_dictP (hc : X.calm = true) : CallR X (.type "dict") (rDictP X.K) := call_dictP hc
def nDict : OpN := fun ds k => match ds with
  | [.lst xs] => ∃ ps, pairsD xs = some ps ∧ k (.ow (.dct (mergeD [] ps)))
  | _ => False
inductive RepP (A : Am) (F : Hp) : List (Key × D) → List (Key × V) → Prop
  | nil : RepP A F [] []
  | cons {k : Key} {d : D} {v : V} {ds : List (Key × D)} {vs : List (Key × V)} : Rep A F d v → RepP A F ds vs → RepP A F ((k, d) :: ds) ((k, v) :: vs)
theorem pairs_at {F H : Hp} (s : Ex F H) : ∀ {ds : List D} {vs : List V} {ps : List (Key × D)}, Reps A F ds vs → pairsD ds = some ps → ∃ (as : List Addr) (kvs : List (Key × V)), vs = as.map V.ref ∧ Paired (fun p kv => SqT A.K H p [kV kv.1, kv.2]) as kvs ∧ RepP A F ps kvs
  | [], _, _, .nil, h => by cases h; exact ⟨[], [], rfl, .nil, .nil⟩
  | d :: ds, _, ps, .cons h hs, e => by
    unfold pairsD at e
    split at e
    · rename_i h'; cases h'
    · rename_i a b ds' h'
      cases h'
      split at e
      · rename_i k r hk hr
        cases e
        obtain ⟨as, kvs, rfl, p1, p2⟩ := pairs_at s hs hr
        cases h with
        | @tup p xs _ h r =>
          cases r with
          | cons ra r => cases r with
            | cons rb r =>
              cases r
              have := kD_kV (A := A) (F := F) (H := H) hk (.rep ra)
              subst this
              exact ⟨p :: as, (k, _) :: kvs, rfl, .cons (ex_t s h) p1, .cons rb p2⟩
      · cases e
    · cases e
theorem merge_at {F : Hp} {ps : List (Key × D)} {kvs : List (Key × V)} (h : RepP A F ps kvs) : ∀ {ds : List (D × D)} {vs : List (Key × V)}, RepK A F ds vs → RepK A F (mergeD ds ps) (mergeK vs kvs) := by
  induction h with
  | nil => exact fun h => h
  | cons hv _ ih => exact fun h => ih (h.put _ hv)
theorem cd_dict {K : PySem.W.Frag} (hK : K = A.K) : CaD A (rDictP K) nDict := fun F H ds vs k Q s a q h => by
  subst hK
  unfold nDict at q
  split at q
  · obtain ⟨ps, e, q⟩ := q
    obtain ⟨v, rfl, b⟩ := args1 a
    obtain ⟨p, vs, rfl, hp, r⟩ := arg_l s b
    obtain ⟨as, kvs, rfl, p1, p2⟩ := pairs_at s r e
    exact ⟨p, as, kvs, rfl, hp, p1, fun l hl => h _ _ _ _ q (new_own s hl (fun _ z => by cases z) ⟨_, upd_same, merge_at p2 .nil⟩ fun _ z => z)⟩
  · exact q.elim
/-- {} -/
def eDct0 : GE := fun δ P _ => P (.ow (.dct [])) δ
theorem de_dct0 {E : XK} {pos : Pos} : PE X (.Dict [] [] pos) (tE A E eDct0) := pe_weak pe_dnewK fun σ H Q ⟨F, δ, P, Z, S, q, k, kx⟩ => fun p hp => by
  obtain ⟨S3, f3, R⟩ := (new_own (A := A) S.sub hp (fun _ z => by cases z) ⟨[], upd_same, .nil⟩ (fun _ z => z) : New A F H F (upd H p (.dK [])) (.ow (.dct [])) (.ref p)).stt S
  exact k _ _ _ _ _ q S3 f3 R
/-! ### a dict's item; an item put -/
def dGet : Op2 := fun a b k => match a with
  | .dct kvs => ∃ y d, keyD b = some y ∧ getD' kvs y = some d ∧ k (.fz d)
  | .lst ds => match b with | .int i => ∃ d, atI ds i = some d ∧ k (.fz d) | _ => False
  | .tup ds => match b with | .int i => ∃ d, atI ds i = some d ∧ k (.fz d) | _ => False
  | .str x => match b with | .int i => x.length ≤ 1000000 ∧ ∃ c, atI x.cps.toList i = some c ∧ k (.fz (.str ⟨#[c]⟩)) | _ => False
  | _ => False
def sPut (i : Nat) (gk gv : GE) : GS := fun δ B => gv δ (fun r δ1 => vw r fun v => (∃ kvs, δ1[i]? = some (some (.ow (.dct kvs)))) ∧ gk δ1 (fun r δ2 => vw r fun kd => match δ2[i]? with
  | some (some (.ow (.dct kvs))) => ∃ y, keyD kd = some y ∧ kvs.length < 100000 ∧ B.nx (δ2.set i (some (.ow (.dct (putD kvs y v)))))
  | _ => False) B.ex) B.ex
theorem ds_put {E : XK} {i : Nat} {gk gv : GE} {x : Str} {p pos pos' : Pos} {ek ev : Expr} (hu : X.A.units + 1 < cLine) (ho : PE X (.Name x p) (tVar i)) (hk : PE X ek (tE A E gk)) (hv : PE X ev (tE A E gv)) (hs : swapsWith ev (some (.Subscript (.Name x p) ek pos')) pos.line X.env = pure false := by rfl) :
    PS X (.Assign [.Subscript (.Name x p) ek pos'] ev pos) (tS A E (sPut i gk gv)) :=
  ps_weak (ps_dput hu ho hk hv hs) fun D σ H ⟨F, δ, B, S, q, kn, kb, kc, kr, kx⟩ => ⟨F, δ, _, _, S, q, fun r δ1 F1 H1 v q1 S1 f1 R => by
    obtain ⟨F2, dd, _, S2, f2, hr2, ⟨kvs0, hi0⟩, q2⟩ := frz_tmp S1 f1 R rfl q1
    obtain ⟨v0, e0, a, e1, ⟨vs0, h1, h2⟩, h3⟩ := S2.sl i _ hi0
    subst e1
    refine ⟨_, e0, F2, δ1, _, _, S2, q2, fun r δ3 F3 H3 w q3 S3 f3 R3 => ?_, fun x _ _ _ _ z er => kx x _ _ _ _ z (er.back f2)⟩
    obtain ⟨F4, kd, le4, S4, f4, hr4, q4⟩ := frz_tmp S3 f3 R3 rfl q3
    split at q4
    · rename_i kvs hi
      obtain ⟨y, hy, hl, q5⟩ := q4
      obtain ⟨v1, e2, a1, e3, ⟨vs, g1, g2⟩, g3⟩ := S4.sl i _ hi
      subst e3
      rw [e0] at e2; cases e2
      have := kD_kV (A := A) (F := F4) (H := H3) hy (.rep hr4)
      subst this
      have hrv : Rep A F4 dd v := hr2.mono f4.up
      refine ⟨a, _, rfl, DPut.k g1 (by rw [← g2.length]; exact sz_lt hl), ?_⟩
      obtain ⟨S5, f5⟩ := S4.wr hi e0 (o' := .dct (putD kvs y dd)) (u := .dK (putK vs y v)) (fun z => by cases z) (fun z => by cases z) g1 (fun _ z => by cases z) (fun _ z => by cases z) (fun _ z => by cases z) (g3 a rfl) ⟨_, upd_same, g2.put y hrv⟩
      exact kn _ _ _ _ q5 S5 ((f2.trans f4).trans f5)
    · exact q4.elim, kx⟩
end
end DL
namespace DL
open PySem L2 Evl PySem.Spec PyProof.Rows
/-! ### isinstance -/
def tyD : D → Option String
  | .non => some "NoneType"
  | .bl _ => some "bool"
  | .int _ => some "int"
  | .str _ => some "str"
  | .tup _ => some "tuple"
  | .lst _ => some "list"
  | .dct _ => some "dict"
  | _ => none
def tys7 : List String := ["NoneType", "bool", "int", "str", "tuple", "list", "dict"]
/-- an own class C as isinstance sees it -/
structure ClsOk (A : Am) (C : Str) : Prop where
  cl : Cls A.K (A.ad C)
  ha : PySem.W.findIn A.K (.ref (A.ad C)) "__class__" = some (some (.builtin "object.__class__"))
  hn : PySem.W.specialIn A.K (.builtin "object.__class__") "__get__" = some (some (.builtin "getset_descriptor.__get__"))
  htk : PySem.W.takesIn A.K (.builtin "object.__class__") = some true
  hm : PySem.W.mroIn A.K (A.ad C) (.type "object") = some true
  no : ∀ t ∈ tys7, PySem.W.kitOne A.K (.type t) (.ref (A.ad C)) = some false
  ty : ∀ t ∈ tys7, PySem.W.kitOne A.K (.ref (A.ad C)) (.type t) = some false
def isi1 (d : D) (c : D) : Option Bool := match c with
  | .ty n => match tyD d with
    | some t => kitB t n
    | none => match d with | .ins _ _ => if n ∈ tys7 then some false else none | _ => none
  | .top C => match tyD d with
    | some _ => some false
    | none => match d with | .ins C' _ => if C' = C then some true else none | _ => none
  | _ => none
def isiL (d : D) : List D → Option Bool
  | [] => some false
  | c :: cs => match isi1 d c with
    | some true => (isiL d cs).map fun _ => true
    | some false => isiL d cs
    | none => none
/-- classes that a text may name -/
def clsIn (cs : List Str) : D → Bool
  | .ty _ => true
  | .top C => cs.contains C
  | _ => false
def insIn (cs : List Str) : D → Bool
  | .ins C _ => cs.contains C
  | _ => true
def nIsi (cs : List Str) : OpN := fun ds k => match ds with
  | [d, c] => insIn cs d = true ∧ match c with
    | .tup l => (l.isEmpty = false ∧ l.all (clsIn cs) = true) ∧ match isiL d l with
      | some b => k (.fz (.bl b))
      | none => False
    | c => clsIn cs c = true ∧ match isi1 d c with
      | some b => k (.fz (.bl b))
      | none => False
  | _ => False
/-- the tuple of classes as a tuple of the heap or of the written part -/
def rIsiR (K : PySem.W.Frag) : List V → Hp → VK → Prop := fun xs H Q => ∃ (x : V) (tp : Addr) (cs : List V) (t : Value) (us : List Value) (b : Bool), xs = [x, .ref tp] ∧ SqT K H tp cs ∧ Paired ClsV cs us ∧ TyX K H x t ∧ PySem.W.kitAny K t us = some b ∧ Q (.bl b) H
theorem call_isiR {X : Cx} : CallR X (.builtin "isinstance") (rIsiR X.K) := by
  intro pins s σ H xs us Q I r h
  obtain ⟨x, tp, cs, t, ws, b, rfl, hT, k, ty, e, q⟩ := h
  obtain ⟨u1, u2, rfl, r1, r2⟩ := vals2 r
  cases (show u2 = Value.ref tp from r2)
  obtain ⟨P, Z, p, hx⟩ := kit_of I r1 ty
  obtain ⟨its, rv, ⟨o, h1, h2, n, h3⟩, _⟩ := I.tuple hT
  have e3 := ClsV.all k rv
  subst e3
  obtain ⟨oc, od, dt, sl⟩ := o
  simp only at h2 h3
  subst h2 h3
  exact PySem.W.kia_tup Z I.kIn p h1 e hx fun tk => ⟨.bl b, H, I.tok tk, rfl, q⟩
def rIsiA (K : PySem.W.Frag) : List V → Hp → VK → Prop := orC (rIsi K) (rIsiR K)
section
variable {X : Cx} {A : Am} {F H : Hp} {v : V}
theorem cr_isiA : CallR X (.builtin "isinstance") (rIsiA X.K) := cr_or call_isi call_isiR
theorem tyD_at (s : Ex F H) {d : D} (h : ArgAt A F H d v) {t : String} (e : tyD d = some t) : TyX A.K H v (.type t) ∧ t ∈ tys7 := by
  have lk : ∀ {a : Addr} {kvs : List (Key × V)}, Rd H a (.dK kvs) → TyX A.K H (.ref a) (.type "dict") := fun {a kvs} h => by
    rcases h with h | ⟨o, h⟩
    · exact .base (.dK h)
    · exact .fDict h
  cases h with
  | rep h =>
    cases h with
    | non => cases e; exact ⟨.base .non, by decide⟩
    | bl b => cases e; exact ⟨.base (.bl b), by decide⟩
    | int i => cases e; exact ⟨.base (.int i), by decide⟩
    | str x => cases e; exact ⟨.base (.str x), by decide⟩
    | tup h r =>
      cases e
      refine ⟨?_, by decide⟩
      rcases ex_t s h with (h | ⟨o, h⟩) | ⟨o, its, n, h1, h2, _⟩
      · exact .base (.tup h)
      · exact .fTuple h
      · exact .kTuple h1 h2
    | lst h r => cases e; exact ⟨.base (.lst (s _ _ h)), by decide⟩
    | dctK h r => cases e; exact ⟨lk (Ex.rd s h), by decide⟩
    | _ => cases e
  | lst h r => cases e; exact ⟨.base (.lst h), by decide⟩
  | dctK h r => cases e; exact ⟨.base (.dK h), by decide⟩
theorem cls_at {c : D} {F : Hp} {cs : List Str} (h : Rep A F c v) (hc : clsIn cs c = true) : (∃ n, c = .ty n ∧ v = .ty n) ∨ ∃ C, c = .top C ∧ v = .ref (A.ad C) ∧ C ∈ cs := by
  cases h with
  | ty n => exact .inl ⟨n, rfl, rfl⟩
  | top C => exact .inr ⟨C, rfl, rfl, by simpa [clsIn] using hc⟩
  | _ => cases hc
/-- one class -/
theorem isi1_at {cs : List Str} (ok : ∀ C ∈ cs, ClsOk A C) (s : Ex F H) {d c : D} {v w : V} {b : Bool} (hd : ArgAt A F H d v) (hi : insIn cs d = true) (hc : Rep A F c w) (hcs : clsIn cs c = true) (e : isi1 d c = some b) :
    ∃ t u, ClsV w u ∧ TyX A.K H v t ∧ PySem.W.kitOne A.K t u = some b ∧ ((∃ n, tyD d = some n ∧ t = .type n) ∨ ∃ C fs, d = .ins C fs ∧ t = .ref (A.ad C)) := by
  have ins : ∀ {C : Str} {fs : List (Str × D)}, d = .ins C fs → TyX A.K H v (.ref (A.ad C)) ∧ C ∈ cs := fun {C fs} e => by
    subst e
    have hC : C ∈ cs := by simpa [insIn] using hi
    obtain ⟨k1, k2, k3, k4, k5, _⟩ := ok C hC
    cases hd with
    | rep h => cases h with | ins h1 h2 r => exact ⟨.base (.ins (s _ _ h1) k1 k2 k3 k4 k5), hC⟩
  rcases cls_at hc hcs with ⟨n, rfl, rfl⟩ | ⟨C, rfl, rfl, hC⟩
  · unfold isi1 at e
    cases ht : tyD d with
    | some t =>
      rw [ht] at e
      exact ⟨_, _, .ty n, (tyD_at s hd ht).1, kit_ty e, .inl ⟨t, rfl, rfl⟩⟩
    | none =>
      rw [ht] at e
      cases d with
      | ins C fs =>
        simp only at e
        split at e
        · rename_i hn
          cases e
          obtain ⟨h1, h2⟩ := ins rfl
          exact ⟨_, _, .ty n, h1, (ok C h2).ty n hn, .inr ⟨C, fs, rfl, rfl⟩⟩
        · cases e
      | _ => cases e
  · unfold isi1 at e
    cases ht : tyD d with
    | some t =>
      rw [ht] at e
      cases e
      obtain ⟨h1, h2⟩ := tyD_at s hd ht
      exact ⟨_, _, .own _, h1, (ok C hC).no t h2, .inl ⟨t, rfl, rfl⟩⟩
    | none =>
      rw [ht] at e
      cases d with
      | ins C' fs =>
        simp only at e
        split at e
        · rename_i hn
          subst hn
          cases e
          obtain ⟨h1, h2⟩ := ins rfl
          exact ⟨_, _, .own _, h1, by unfold PySem.W.kitOne; simp, .inr ⟨C', fs, rfl, rfl⟩⟩
        · cases e
      | _ => cases e
theorem isiL_at {cs : List Str} (ok : ∀ C ∈ cs, ClsOk A C) (s : Ex F H) {d : D} {v : V} (hd : ArgAt A F H d v) (hi : insIn cs d = true) {t : Value} (ht : (∃ n, tyD d = some n ∧ t = .type n) ∨ ∃ C fs, d = .ins C fs ∧ t = .ref (A.ad C)) :
    ∀ {l : List D} {ws : List V} {b : Bool}, Reps A F l ws → l.all (clsIn cs) = true → isiL d l = some b → ∃ us, Paired ClsV ws us ∧ PySem.W.kitAny A.K t us = some b
  | [], _, b, .nil, _, e => by cases e; exact ⟨[], .nil, rfl⟩
  | c :: l, _, b, .cons h hs, hc, e => by
    rw [List.all_cons, Bool.and_eq_true] at hc
    unfold isiL at e
    split at e
    · rename_i h1
      simp only [Option.map_eq_some_iff] at e
      obtain ⟨b', e, rfl⟩ := e
      obtain ⟨us, p, q⟩ := isiL_at ok s hd hi ht hs hc.2 e
      obtain ⟨t', u, k1, k2, k3, k4⟩ := isi1_at ok s hd hi h hc.1 h1
      have : t' = t := by
        rcases k4 with ⟨n, e1, rfl⟩ | ⟨C, fs, e1, rfl⟩ <;> rcases ht with ⟨n', e2, rfl⟩ | ⟨C', fs', e2, rfl⟩
        · rw [e1] at e2; cases e2; rfl
        · subst e2; cases e1
        · subst e1; cases e2
        · rw [e1] at e2; cases e2; rfl
      subst this
      exact ⟨u :: us, .cons k1 p, kitAny_cons k3 (fun z => by cases z) fun _ => rfl⟩
    · rename_i h1
      obtain ⟨us, p, q⟩ := isiL_at ok s hd hi ht hs hc.2 e
      obtain ⟨t', u, k1, k2, k3, k4⟩ := isi1_at ok s hd hi h hc.1 h1
      have : t' = t := by
        rcases k4 with ⟨n, e1, rfl⟩ | ⟨C, fs, e1, rfl⟩ <;> rcases ht with ⟨n', e2, rfl⟩ | ⟨C', fs', e2, rfl⟩
        · rw [e1] at e2; cases e2; rfl
        · subst e2; cases e1
        · subst e1; cases e2
        · rw [e1] at e2; cases e2; rfl
      subst this
      exact ⟨u :: us, .cons k1 p, kitAny_cons k3 (fun _ => q) fun z => by cases z⟩
    · cases e
theorem cd_isi {K : PySem.W.Frag} (hK : K = A.K) {cs : List Str} (ok : ∀ C ∈ cs, ClsOk A C) : CaD A (rIsiA K) (nIsi cs) := fun F H ds vs k Q s a q h => by
  subst hK
  unfold nIsi at q
  split at q
  · rename_i d c
    obtain ⟨v, w, rfl, b1, b2⟩ := args2 a
    obtain ⟨hi, q⟩ := q
    split at q
    · rename_i l
      obtain ⟨⟨hne, hc⟩, q⟩ := q
      split at q
      · rename_i b e
        have ty : ∃ t, TyX A.K H v t ∧ ((∃ n, tyD d = some n ∧ t = .type n) ∨ ∃ C fs, d = .ins C fs ∧ t = .ref (A.ad C)) := by
          cases l with
          | nil => cases hne
          | cons c l =>
            cases b2 with
            | rep b2 => cases b2 with
              | tup _ r => cases r with
                | cons r1 r2 =>
                  rw [List.all_cons, Bool.and_eq_true] at hc
                  unfold isiL at e
                  cases h1 : isi1 d c with
                  | none => rw [h1] at e; cases e
                  | some b' =>
                    obtain ⟨t, u, _, k2, _, k4⟩ := isi1_at ok s b1 hi r1 hc.1 h1
                    exact ⟨t, k2, k4⟩
        obtain ⟨t, ht, ht'⟩ := ty
        cases b2 with
        | rep b2 => cases b2 with
          | @tup p xs _ h1 r =>
            obtain ⟨us, p1, p2⟩ := isiL_at ok s b1 hi ht' r hc e
            exact .inr ⟨v, p, xs, t, us, b, rfl, ex_t s h1, p1, ht, p2, h _ _ _ _ q (new_fz s (.bl _))⟩
      · exact q.elim
    · obtain ⟨hc, q⟩ := q
      split at q
      · rename_i b e
        cases b2 with
        | rep b2 =>
          obtain ⟨t, u, k1, k2, k3, _⟩ := isi1_at ok s b1 hi b2 hc e
          exact .inl ⟨v, w, t, u, b, rfl, k1, k2, k3, h _ _ _ _ q (new_fz s (.bl _))⟩
        | _ => cases hc
      · exact q.elim
  · exact q.elim
end
end DL
namespace DL
open PySem L2 Evl PySem.Spec PyProof.Rows

/-! ### functions -/
/-- what a def does with data: its arguments, its result, its error -/
abbrev DF := List Sl → (Sl → Prop) → (DX → Prop) → Prop
def isPen : Sl → Bool
  | .ow .pen => true
  | _ => false
/-- arguments as a callee has them: data, or a pen -/
def okArg : Sl → Bool
  | .fz _ => true
  | .ow .pen => true
  | _ => false
abbrev up1 {α : Type} (l : List α) : List (Option α) := l.map some
structure Ret (A : Am) (F H : Hp) (vs : List V) (ss : List Sl) (F' H' : Hp) (r : Sl) (v : V) : Prop where
  up : Le F F'
  sub : Ex F' H'
  tab : LamX.Tabs A.T H'
  ftab : ∀ a ps, H' a = some (.tbl ps) → F' a = none
  keep : ∀ a o, H a = some o → F a = none → (∀ ps, o ≠ .tbl ps) → ¬ Own (up1 vs) (up1 ss) H a → H' a = some o ∧ F' a = none
  there : ∀ a, Fre H' a → Fre H a
  pen : ∀ (i : Nat) (a : Addr), ss[i]? = some (.ow .pen) → vs[i]? = some (.ref a) → OwAt A F' H' .pen a ∧ ∀ b, Ft H' .pen a b → F' b = none ∧ (Own (up1 vs) (up1 ss) H b ∨ Fre H b)
  res : match r with
    | .fz d => Rep A F' d v
    | .ow o => ∃ a, v = .ref a ∧ OwAt A F' H' o a ∧ ∀ b, Ft H' o a b → F' b = none ∧ (∀ (i : Nat) (p : Addr), ss[i]? = some (.ow .pen) → vs[i]? = some (.ref p) → ¬ Ft H' .pen p b) ∧ (Own (up1 vs) (up1 ss) H b ∨ Fre H b)
def spD (A : Am) (n : Nat) (df : DF) : Sp := fun vs H Q E => vs.length = n ∧ ∃ (F : Hp) (ss : List Sl) (P : Sl → Prop) (X : DX → Prop), Stt A F H (up1 vs) (up1 ss) ∧ ss.all okArg = true ∧ df ss P X ∧
  (∀ r F' H' v, P r → Ret A F H vs ss F' H' r v → Q v H') ∧ (∀ x F' H' cls d, X x → ErAt A (up1 vs) (up1 ss) F H x F' H' cls d → E cls d H')

/-- arguments handed over -/
def argS : List Hd → Env → Option (List Sl)
  | [], _ => some []
  | .fix d :: hs, δ => (argS hs δ).map (.fz d :: ·)
  | .slot i :: hs, δ => match δ[i]? with
    | some (some (.fz d)) => (argS hs δ).map (.fz d :: ·)
    | some (some (.ow .pen)) => match argS hs δ with
      | some ss => if ss.any isPen then none else some (.ow .pen :: ss)
      | none => none
    | _ => none
def eCall (df : DF) (gs : GA) : GE := fun δ P X => gs δ (fun hs δ1 => match argS hs δ1 with
  | some ss => df ss (fun r => P r δ1) X
  | none => False) X
section
variable {A : Am} {F F' H H' : Hp} {σ : L2.St} {δ : Env} {v : V} {r : Sl}
/-- the callee's start: each argument a slot, one pen at the most -/
theorem argS_at {hs : List Hd} {vs : List V} (S : Stt A F H σ δ) (h : HdsAt A F σ hs vs) : ∀ {ss : List Sl}, argS hs δ = some ss → ss.length = vs.length ∧ ss.all okArg = true ∧
    (∀ (i : Nat) (s : Sl), ss[i]? = some s → ∃ v, vs[i]? = some v ∧ SlAt A F H s v) ∧
    (∀ (i : Nat), ss[i]? = some (.ow .pen) → ∃ (j : Nat) (a : Addr), δ[j]? = some (some (.ow .pen)) ∧ σ[j]? = some (some (.ref a)) ∧ vs[i]? = some (.ref a)) ∧
    (∀ (i j : Nat), ss[i]? = some (.ow .pen) → ss[j]? = some (.ow .pen) → i = j) := by
  induction h with
  | nil =>
    intro ss e
    cases e
    exact ⟨rfl, rfl, fun i s h => by simp at h, fun i h => by simp at h, fun i j h => by simp at h⟩
  | @cons hd v hs vs h _ ih =>
    intro ss e
    have fin : ∀ {d : D} {ss' : List Sl}, argS hs δ = some ss' → Rep A F d v → (.fz d :: ss').length = (v :: vs).length ∧ (Sl.fz d :: ss').all okArg = true ∧
        (∀ (i : Nat) (s : Sl), (Sl.fz d :: ss')[i]? = some s → ∃ w, (v :: vs)[i]? = some w ∧ SlAt A F H s w) ∧
        (∀ (i : Nat), (Sl.fz d :: ss')[i]? = some (.ow .pen) → ∃ (j : Nat) (a : Addr), δ[j]? = some (some (.ow .pen)) ∧ σ[j]? = some (some (.ref a)) ∧ (v :: vs)[i]? = some (.ref a)) ∧
        (∀ (i j : Nat), (Sl.fz d :: ss')[i]? = some (.ow .pen) → (Sl.fz d :: ss')[j]? = some (.ow .pen) → i = j) := fun {d ss'} e r => by
      obtain ⟨i1, i2, i3, i4, i5⟩ := ih e
      refine ⟨by simp [i1], by rw [List.all_cons, i2]; rfl, fun i s h => ?_, fun i h => ?_, fun i j h1 h2 => ?_⟩
      · cases i with
        | zero => simp at h; subst h; exact ⟨v, rfl, r⟩
        | succ i => simp at h; simpa using i3 i s h
      · cases i with
        | zero => simp at h
        | succ i => simp at h; simpa using i4 i h
      · cases i with
        | zero => simp at h1
        | succ i =>
          cases j with
          | zero => simp at h2
          | succ j => simp at h1 h2; rw [i5 i j h1 h2]
    cases hd with
    | fix d =>
      simp only [argS, Option.map_eq_some_iff] at e
      obtain ⟨ss', e, rfl⟩ := e
      exact fin e h
    | slot k =>
      have hv : σ[k]? = some (some v) := h
      unfold argS at e
      split at e
      · rename_i d hd
        simp only [Option.map_eq_some_iff] at e
        obtain ⟨ss', e, rfl⟩ := e
        obtain ⟨w, e2, s2⟩ := S.sl k _ hd
        rw [hv] at e2; cases e2
        exact fin e s2
      · rename_i hd
        split at e
        · rename_i ss' e1
          split at e
          · cases e
          · rename_i hnp
            cases e
            obtain ⟨i1, i2, i3, i4, i5⟩ := ih e1
            have np : ∀ i : Nat, ss'[i]? ≠ some (.ow .pen) := fun i z => hnp (List.any_eq_true.mpr ⟨.ow .pen, List.mem_of_getElem? z, rfl⟩)
            obtain ⟨w, e2, s2⟩ := S.sl k _ hd
            rw [hv] at e2; cases e2
            refine ⟨by simp [i1], by rw [List.all_cons, i2]; rfl, fun i s h => ?_, fun i h => ?_, fun i j h1 h2 => ?_⟩
            · cases i with
              | zero => simp at h; subst h; exact ⟨v, rfl, s2⟩
              | succ i => simp at h; simpa using i3 i s h
            · cases i with
              | zero =>
                obtain ⟨a, e3, _⟩ := s2
                subst e3
                exact ⟨k, a, hd, hv, rfl⟩
              | succ i => simp at h; exact (np i h).elim
            · cases i with
              | zero =>
                cases j with
                | zero => rfl
                | succ j => simp at h2; exact (np j h2).elim
              | succ i => simp at h1; exact (np i h1).elim
        · cases e
      · cases e
theorem up_get {α : Type} {l : List α} {i : Nat} {x : α} : (up1 l)[i]? = some (some x) ↔ l[i]? = some x := by
  simp [up1, List.getElem?_map]
theorem Stt.callee {hs : List Hd} {vs : List V} {ss : List Sl} (S : Stt A F H σ δ) (h : HdsAt A F σ hs vs) (e : argS hs δ = some ss) : Stt A F H (up1 vs) (up1 ss) ∧ ss.all okArg = true ∧ ∀ b, Own (up1 vs) (up1 ss) H b → Own σ δ H b := by
  obtain ⟨i1, i2, i3, i4, i5⟩ := argS_at S h e
  have pen : ∀ {i : Nat} {o : Ow}, ss[i]? = some (.ow o) → o = .pen := fun {i o} h => by
    have := List.all_eq_true.mp i2 _ (List.mem_of_getElem? h)
    cases o <;> simp_all [okArg]
  refine ⟨⟨S.sub, S.tab, S.ftab, by simp [up1, i1], fun i s h => ?_, fun i j o o' a a' b h1 h2 h3 h4 h5 h6 => ?_⟩, i2, fun b ⟨i, o, a, h1, h2, h3⟩ => ?_⟩
  · obtain ⟨w, e1, q⟩ := i3 i s (up_get.mp h)
    exact ⟨w, up_get.mpr e1, q⟩
  · have z1 := up_get.mp h1
    have z3 := up_get.mp h3
    cases pen z1; cases pen z3
    exact i5 i j z1 z3
  · have z1 := up_get.mp h1
    cases pen z1
    obtain ⟨j, a', q1, q2, q3⟩ := i4 i z1
    have := up_get.mp h2
    rw [q3] at this; cases this
    exact ⟨j, .pen, _, q1, q2, h3⟩
theorem Ret.stt {hs : List Hd} {vs : List V} {ss : List Sl} (S : Stt A F H σ δ) (h : HdsAt A F σ hs vs) (e : argS hs δ = some ss) (R : Ret A F H vs ss F' H' r v) : Stt A F' H' σ δ ∧ Fr σ δ F H σ δ F' H' ∧ RvAt A σ δ H F' H' δ r v := by
  obtain ⟨i1, i2, i3, i4, i5⟩ := argS_at S h e
  obtain ⟨S0, _, own0⟩ := S.callee h e
  have pen : ∀ {i : Nat} {o : Ow}, ss[i]? = some (.ow o) → o = .pen := fun {i o} h => by
    have := List.all_eq_true.mp i2 _ (List.mem_of_getElem? h)
    cases o <;> simp_all [okArg]
  -- each slot: the pen that went along, or one that the callee has not touched
  have slot : ∀ (j : Nat) (o : Ow) (c : Addr), δ[j]? = some (some (.ow o)) → σ[j]? = some (some (.ref c)) → (o = .pen ∧ ∃ (i : Nat), ss[i]? = some (.ow .pen) ∧ vs[i]? = some (.ref c)) ∨
      ((∀ b, Ft H o c b → ¬ Own (up1 vs) (up1 ss) H b) ∧ OwAt A F' H' o c ∧ (∀ b, Ft H' o c b ↔ Ft H o c b) ∧ ∀ b, Ft H o c b → F' b = none ∧ ¬ Fre H b) := fun j o c h1 h2 => by
    obtain ⟨w, e1, c', e2, ho, hf⟩ := S.sl j _ h1
    rw [h2] at e1; cases e1; cases e2
    by_cases hp : ∃ b, Ft H o c b ∧ Own (up1 vs) (up1 ss) H b
    · obtain ⟨b, hb, i, o', a, g1, g2, g3⟩ := hp
      have z1 := up_get.mp g1
      cases pen z1
      obtain ⟨j', a', q1, q2, q3⟩ := i4 i z1
      have z2 := up_get.mp g2
      rw [q3] at z2; cases z2
      have := S.sep j j' o .pen c _ b h1 h2 q1 q2 hb g3
      subst this
      rw [h1] at q1; cases q1
      rw [h2] at q2; cases q2
      exact .inl ⟨rfl, i, z1, q3⟩
    · have no : ∀ b, Ft H o c b → ¬ Own (up1 vs) (up1 ss) H b := fun b hb z => hp ⟨b, hb, z⟩
      have kp : ∀ b, Ft H o c b → H' b = H b ∧ F' b = none ∧ ¬ Fre H b := fun b hb => by
        have hne := ft_h ho hb
        obtain ⟨u, hu⟩ := some_of_ne hne
        have nt : ∀ ps, u ≠ .tbl ps := fun ps z => by
          subst z
          have ff := ft_h ho hb
          cases o with
          | lst ds => obtain ⟨_, q, _⟩ := ho; cases hb; rw [q] at hu; cases hu
          | dct ds => obtain ⟨_, q, _⟩ := ho; cases hb; rw [q] at hu; cases hu
          | pen =>
            rcases hb with rfl | hb
            · obtain ⟨_, _, _, _, _, _, _, q, _⟩ := ho; rw [q] at hu; cases hu
            · obtain ⟨_, _, _, _, _, _, _, q, _⟩ := hb; rw [q] at hu; cases hu
        obtain ⟨q1, q2⟩ := R.keep b u hu (hf b hb) nt (no b hb)
        exact ⟨q1.trans hu.symm, q2, fre_no hu nt⟩
      obtain ⟨q1, q2⟩ := ho.keep (H' := H') R.up fun b hb => (kp b hb).1
      exact .inr ⟨no, q1, q2, fun b hb => ⟨(kp b hb).2.1, (kp b hb).2.2⟩⟩
  have own' : ∀ b, Own σ δ H' b → Own σ δ H b ∨ Fre H b := fun b ⟨j, o, c, h1, h2, h3⟩ => by
    rcases slot j o c h1 h2 with ⟨rfl, i, z1, z2⟩ | ⟨_, _, q2, _⟩
    · rcases ((R.pen i c z1 z2).2 b h3).2 with z | z
      · exact .inl (own0 b z)
      · exact .inr z
    · exact .inl ⟨j, o, c, h1, h2, (q2 b).mp h3⟩
  refine ⟨⟨R.sub, R.tab, R.ftab, S.len, fun j s h1 => ?_, fun j k o o' a a' b h1 h2 h3 h4 h5 h6 => ?_⟩, ⟨R.up, fun a o h hf n no => R.keep a o h hf n fun z => no (own0 a z), R.there, own', fun _ h => ⟨h, rfl⟩⟩, ?_⟩
  · obtain ⟨w, e1, q⟩ := S.sl j s h1
    refine ⟨w, e1, ?_⟩
    cases s with
    | fz d => exact Rep.mono R.up q
    | ow o =>
      obtain ⟨c, e2, _, _⟩ := q
      subst e2
      rcases slot j o c h1 e1 with ⟨rfl, i, z1, z2⟩ | ⟨_, q1, q2, q3⟩
      · exact ⟨c, rfl, (R.pen i c z1 z2).1, fun b hb => ((R.pen i c z1 z2).2 b hb).1⟩
      · exact ⟨c, rfl, q1, fun b hb => (q3 b ((q2 b).mp hb)).1⟩
  · have cross : ∀ {j k : Nat} {o : Ow} {a a' b : Addr} {i : Nat}, ss[i]? = some (.ow .pen) → vs[i]? = some (.ref a) → δ[j]? = some (some (.ow .pen)) → σ[j]? = some (some (.ref a)) → δ[k]? = some (some (.ow o)) → σ[k]? = some (some (.ref a')) → Ft H' .pen a b → (∀ b, Ft H o a' b → ¬ Own (up1 vs) (up1 ss) H b) → (∀ b, Ft H' o a' b ↔ Ft H o a' b) → (∀ b, Ft H o a' b → F' b = none ∧ ¬ Fre H b) → ¬ Ft H' o a' b := fun {j k o a a' b i} z1 z2 _ _ _ _ h5 n1 n2 n3 h6 => by
      have g := (n2 b).mp h6
      rcases ((R.pen i a z1 z2).2 b h5).2 with z | z
      · exact n1 b g z
      · exact (n3 b g).2 z
    rcases slot j o a h1 h2 with ⟨rfl, i, z1, z2⟩ | ⟨n1, q1, q2, q3⟩ <;> rcases slot k o' a' h3 h4 with ⟨rfl, i', y1, y2⟩ | ⟨m1, p1, p2, p3⟩
    · have := i5 i i' z1 y1
      subst this
      rw [z2] at y2; cases y2
      have hp : Ft H .pen a a := .inl rfl
      exact S.sep j k .pen .pen a a a h1 h2 h3 h4 hp hp
    · exact (cross z1 z2 h1 h2 h3 h4 h5 m1 p2 p3 h6).elim
    · exact (cross y1 y2 h3 h4 h1 h2 h6 n1 q2 q3 h5).elim
    · exact S.sep j k o o' a a' b h1 h2 h3 h4 ((q2 b).mp h5) ((p2 b).mp h6)
  · cases r with
    | fz d => exact R.res
    | ow o =>
      obtain ⟨a, e1, ho, hb⟩ := R.res
      refine ⟨a, e1, ho, fun b h1 => ?_⟩
      obtain ⟨q1, q2, q3⟩ := hb b h1
      refine ⟨q1, fun ⟨j, o', c, g1, g2, g3⟩ => ?_, q3.imp (own0 b) id⟩
      rcases slot j o' c g1 g2 with ⟨rfl, i, z1, z2⟩ | ⟨n1, _, n2, n3⟩
      · exact q2 i c z1 z2 g3
      · have g := (n2 b).mp g3
        rcases q3 with z | z
        · exact n1 b g z
        · exact (n3 b g).2 z
theorem ErAt.call {hs : List Hd} {vs : List V} {ss : List Sl} {x : DX} {cls : Value} {d : Option Addr} (S : Stt A F H σ δ) (h : HdsAt A F σ hs vs) (e : argS hs δ = some ss) (R : ErAt A (up1 vs) (up1 ss) F H x F' H' cls d) : ErAt A σ δ F H x F' H' cls d := by
  obtain ⟨_, _, own0⟩ := S.callee h e
  exact ⟨R.up, R.sub, R.tab, R.ftab, fun a o h hf n no => R.keep a o h hf n fun z => no (own0 a z), R.there, R.cl, R.fs, R.new⟩
end
section
variable {X : Cx} {A : Am} {E : XK} {k : Nat} {f : Addr} {fd : FuncData} {ps : List Str} {x : Str} {p pos : Pos} {e : Expr} {es : List Expr} {gs : GA} {df : DF} {n : Nat}
theorem call_weak (σ : L2.St) (H : Hp) (Q : VK) : (n = n) → tE A E (fun δ P X => gs δ (fun hs δ1 => hs.length = n ∧ match argS hs δ1 with | some ss => df ss (fun r => P r δ1) X | none => False) X) σ H Q → tCall (spD A n df) [] E (tAr A E gs) σ H Q := fun _ ⟨F, δ, P, Z, S, q, kk, kx⟩ =>
  ⟨F, δ, _, Z, S, q, fun hs δ1 F1 H1 vs ⟨hn, q1⟩ S1 f1 a1 => by
    split at q1
    · rename_i ss e
      obtain ⟨S2, ok, _⟩ := S1.callee a1 e
      have hl : vs.length = n := by
        have : ∀ {hs : List Hd} {vs : List V}, HdsAt A F1 σ hs vs → hs.length = vs.length := fun h => by
          induction h with
          | nil => rfl
          | cons _ _ ih => simp [ih]
        rw [← this a1]; exact hn
      rw [List.append_nil]
      refine ⟨hl, F1, ss, _, _, S2, ok, q1, fun r F' H' v q2 R => ?_, fun x F' H' cls d z er => kx x F' H' cls d z ((er.call S1 a1 e).back f1)⟩
      obtain ⟨S3, f3, R3⟩ := R.stt S1 a1 e
      exact kk _ _ _ _ _ q2 S3 (f1.trans f3) (R3.back f1)
    · exact q1.elim, kx⟩
end
end DL
namespace DL
open PySem L2 Evl PySem.Spec PyProof.Rows

def eCallN (n : Nat) (df : DF) (gs : GA) : GE := fun δ P X => gs δ (fun hs δ1 => hs.length = n ∧ match argS hs δ1 with
  | some ss => df ss (fun r => P r δ1) X
  | none => False) X
/-- a def's data reading from its body's -/
def dfOf (m : Nat) (g : GS) : DF := fun ss P X => g (up1 ss ++ List.replicate m none) { nx := fun _ => P (.fz .non), rt := P, bk := fun _ => False, ct := fun _ => False, ex := X }
section
variable {X : Cx} {A : Am} {E : XK} {k : Nat} {f : Addr} {fd : FuncData} {ps : List Str} {x : Str} {p pos : Pos} {e : Expr} {es : List Expr} {gs : GA} {df : DF} {n : Nat}
theorem de_call (F : FnOk X.prog X.w X.K X.mg X.base (L2.CX X.prog X.w) k f fd ps (spD A n df)) (hr : Room k X.A) (hg : Gl X x) (hm : X.mg x = some (.ref f)) (hk : PySem.W.keepIn X.K (.ref f) = true) (hb : Binds X.K fd ps []) (hx : Passes (L2.CX X.prog X.w) X E)
    (ha : PA X (e :: es) (tAr A E gs)) (hdb : (x == ("__debug__" : Str)) = false := by decide) (he : starEach (e :: es) X.env = (false, eval e X.env) :: starEach es X.env := by rfl) (hpl : (backTo pos (starEach es X.env)).any (·.1) = false := by rfl) :
    PE X (.Call (.Name x p) (e :: es) [] pos) (tE A E (eCallN n df gs)) :=
  pe_weak (pe_call F hr hg hm hk hb .nil hx ha hdb he hpl) fun σ H Q h => call_weak σ H Q rfl h
theorem de_call0 (F : FnOk X.prog X.w X.K X.mg X.base (L2.CX X.prog X.w) k f fd ps (spD A 0 df)) (hr : Room k X.A) (hg : Gl X x) (hm : X.mg x = some (.ref f)) (hk : PySem.W.keepIn X.K (.ref f) = true) (hb : Binds X.K fd ps []) (hx : Passes (L2.CX X.prog X.w) X E) (hdb : (x == ("__debug__" : Str)) = false := by decide) :
    PE X (.Call (.Name x p) [] [] pos) (tE A E (eCallN 0 df aNil)) :=
  pe_weak (pe_call0 F hr hg hm hk hb .nil hx hdb) fun σ H Q ⟨F, δ, P, Z, S, q, kk, kx⟩ => call_weak (A := A) (E := E) (gs := aNil) σ H Q rfl ⟨F, δ, P, Z, S, q, kk, kx⟩ |> fun ⟨F, δ, P, Z, S, q, kk, kx⟩ => by
    exact kk [] δ F H [] q S Fr.refl .nil
theorem passF : Passes (L2.CX X.prog X.w) X EF := fun pins σ H s e s' I ⟨_, _, _, _, _, _, _, _, _, _, _, _, z⟩ => z.elim
theorem passE (tk : Takes X (fun cls d _ H => E cls d H)) : Passes (L2.CX X.prog X.w) X E := passes_call tk fun _ _ _ _ h => h
end
section
variable {P : Program} {w : World} {K : PySem.W.Frag} {mg : Str → Option Value} {base : Heap} {A : Am}
theorem start_st {F H : Hp} {vs : List V} {ss : List Sl} {N : List Str} {m : Nat} (hm : m = N.length - vs.length) (S : Stt A F H (up1 vs) (up1 ss)) : Stt A F H (start N vs) (up1 ss ++ List.replicate m none) ∧
    (∀ b, Own (start N vs) (up1 ss ++ List.replicate m none) H b ↔ Own (up1 vs) (up1 ss) H b) ∧ (∀ (i : Nat) (s : Sl), (up1 ss ++ List.replicate m none)[i]? = some (some s) ↔ ss[i]? = some s) ∧ ∀ (i : Nat) (v : V), vs[i]? = some v → (start N vs)[i]? = some (some v) := by
  have hl : (up1 vs).length = (up1 ss).length := S.len
  have cs : ∀ {α : Type} {l : List α} {k : Nat} {i : Nat} {x : α}, (up1 l ++ List.replicate k none)[i]? = some (some x) ↔ (up1 l)[i]? = some (some x) := fun {α l k i x} => by
    rcases Nat.lt_or_ge i (up1 l).length with h | h
    · rw [List.getElem?_append_left h]
    · rw [List.getElem?_append_right h, List.getElem?_eq_none h]
      constructor
      · intro z
        have := List.mem_of_getElem? z
        rw [List.mem_replicate] at this
        cases this.2
      · intro z; cases z
  have es : start N vs = up1 vs ++ List.replicate m none := by rw [hm]; rfl
  rw [es]
  refine ⟨⟨S.sub, S.tab, S.ftab, by simp [hl], fun i s h => ?_, fun i j o o' a a' b h1 h2 h3 h4 h5 h6 => ?_⟩, fun b => ⟨fun ⟨i, o, a, h1, h2, h3⟩ => ⟨i, o, a, cs.mp h1, cs.mp h2, h3⟩, fun ⟨i, o, a, h1, h2, h3⟩ => ⟨i, o, a, cs.mpr h1, cs.mpr h2, h3⟩⟩, fun i s => cs.trans up_get, fun i v h => cs.mpr (up_get.mpr h)⟩
  · obtain ⟨v, e, q⟩ := S.sl i s (cs.mp h)
    exact ⟨v, cs.mpr e, q⟩
  · exact S.sep i j o o' a a' b (cs.mp h1) (cs.mp h2) (cs.mp h3) (cs.mp h4) h5 h6
theorem fnD {x qual : Str} {st : Stmt} {f : Addr} {fd : FuncData} {N ps : List Str} {k : Nat} {g : GS} {df : DF} (F : Fun K x qual st f fd) (Sc : FnScope N ps (defScope st))
    (body : ∀ (cdv : Value) (Ar : Around) (outer : List PySem.Env) (s : Shared) (H : Hp) (E : XK), Room k (Ar.deeper (envOfC qual (defScope st) s.heap.objs.size f cdv)) → PSs (cxOf (L2.CX P w) P w K mg base N qual (defScope st) f cdv Ar outer s H E) (defBody st) (tS A E g))
    (hdf : ∀ ss P X, ss.length = ps.length → ss.all okArg = true → df ss P X → dfOf (N.length - ps.length) g ss P X) : FnOk P w K mg base (L2.CX P w) (k + 1) f fd ps (spD A ps.length df) := by
  refine F.okX Sc (fun vs H Q E h => h.1) (fun cdv Ar outer s H vs Q E hr h => ⟨_, body cdv Ar outer s H E hr, ?_⟩)
  obtain ⟨hl, F0, ss, P0, X0, S, ok, q, kq, kx⟩ := h
  have hss : ss.length = ps.length := by
    have := S.len
    simp [up1] at this
    omega
  obtain ⟨S1, own1, sl1, v1⟩ := start_st (N := N) (m := N.length - ps.length) (by rw [hl]) S
  have fin : ∀ (r : Sl) (δ' : Env) (F' H' : Hp) (σ' : L2.St) (v : V), P0 r → Stt A F' H' σ' δ' → Fr (start N vs) (up1 ss ++ List.replicate (N.length - ps.length) none) F0 H σ' δ' F' H' → RvS A (start N vs) (up1 ss ++ List.replicate (N.length - ps.length) none) H F' H' σ' δ' r v → Q v H' := fun r δ' F' H' σ' v hp S' f R => by
    refine kq r F' H' v hp ⟨f.up, S'.sub, S'.tab, S'.ftab, fun a o h hf n no => f.keep a o h hf n fun z => no ((own1 a).mp z), f.there, fun i a h1 h2 => ?_, ?_⟩
    · obtain ⟨z1, z2⟩ := f.pen i ((sl1 i _).mpr h1)
      have z3 : σ'[i]? = some (some (.ref a)) := z2.trans (v1 i _ h2)
      obtain ⟨w, e, a', e1, hp, hb⟩ := S'.sl i _ z1
      rw [z3] at e; cases e; cases e1
      exact ⟨hp, fun b h => ⟨hb b h, (f.own b ⟨i, .pen, a, z1, z3, h⟩).imp (own1 b).mp id⟩⟩
    · cases r with
      | fz d => exact R
      | ow o =>
        obtain ⟨a, e, h1, h2⟩ := R
        refine ⟨a, e, h1, fun b hb => ?_⟩
        obtain ⟨q1, q2, q3⟩ := h2 b hb
        refine ⟨q1, fun i p g1 g2 g3 => ?_, q3.imp (own1 b).mp id⟩
        obtain ⟨z1, z2⟩ := f.pen i ((sl1 i _).mpr g1)
        exact q2 ⟨i, .pen, p, z1, z2.trans (v1 i _ g2), g3⟩
  refine ⟨F0, _, _, S1, hdf ss P0 X0 hss ok q, fun δ' F' H' σ' z S' f => fin (.fz .non) δ' F' H' σ' .non z S' f .non, fun _ _ _ _ z => z.elim, fun _ _ _ _ z => z.elim, fin, fun x F' H' cls d z er => kx x F' H' cls d z ⟨er.up, er.sub, er.tab, er.ftab, fun a o h hf n no => er.keep a o h hf n fun z => no ((own1 a).mp z), er.there, er.cl, er.fs, er.new⟩⟩
end
end DL
namespace DL
open PySem L2 Evl PySem.Spec PyProof.Rows

/-! ### own errors with fields -/
def spI1 (K : PySem.W.Frag) (f : Str) : Sp := fun vs H Q _ => vs.length = 2 ∧ ∃ (a C : Addr) (y : V), vs = [.ref a, y] ∧ OexC K C ∧ PySem.W.findIn K (.ref C) f = some none ∧ H a = some (exo a C none) ∧
  ∀ dx, H dx = none → dx ≠ a → Q .non (upd (upd H dx (exd dx [(f, y)])) a (exo a C (some dx)))
def spI2 (K : PySem.W.Frag) (f g : Str) : Sp := fun vs H Q _ => vs.length = 3 ∧ ∃ (a C : Addr) (y z : V), vs = [.ref a, y, z] ∧ OexC K C ∧ (PySem.W.findIn K (.ref C) f = some none ∧ PySem.W.findIn K (.ref C) g = some none) ∧ H a = some (exo a C none) ∧
  ∀ dx, H dx = none → dx ≠ a → Q .non (upd (upd (upd H dx (exd dx [(f, y)])) a (exo a C (some dx))) dx (exd dx [(g, z), (f, y)]))
section
variable {P : Program} {w : World} {K : PySem.W.Frag} {mg : Str → Option Value} {base : Heap}
theorem ok_i1 {qual x : Str} {st : Stmt} {f : Addr} {fd : FuncData} {N ps : List Str} {k : Nat} {fld : Str} (F : Fun K x qual st f fd) (Sc : FnScope N ps (defScope st)) (hps : ps.length = 2)
    (body : ∀ (cdv : Value) (Ar : Around) (outer : List PySem.Env) (s : Shared) (H : Hp) (E : XK), PSs (cxOf (L2.CX P w) P w K mg base N qual (defScope st) f cdv Ar outer s H E) (defBody st) (tOst K fld (tVar 0) (tVar 1))) : FnOk P w K mg base (L2.CX P w) (k + 1) f fd ps (spI1 K fld) := by
  refine F.okX Sc (fun vs H Q E h => h.1.trans hps.symm) (fun cdv Ar outer s H vs Q E hr h => ⟨_, body cdv Ar outer s H E, ?_⟩)
  obtain ⟨_, a, C, y, rfl, T, hf, ha, q⟩ := h
  exact ⟨y, rfl, .ref a, rfl, a, C, rfl, T, hf, .inl ⟨ha, fun dx h1 h2 => q dx h1 h2⟩⟩
theorem ok_i2 {qual x : Str} {st : Stmt} {f : Addr} {fd : FuncData} {N ps : List Str} {k : Nat} {fl gl : Str} (F : Fun K x qual st f fd) (Sc : FnScope N ps (defScope st)) (hps : ps.length = 3)
    (body : ∀ (cdv : Value) (Ar : Around) (outer : List PySem.Env) (s : Shared) (H : Hp) (E : XK), PSs (cxOf (L2.CX P w) P w K mg base N qual (defScope st) f cdv Ar outer s H E) (defBody st) (tSeq (tOst K fl (tVar 0) (tVar 1)) (tOst K gl (tVar 0) (tVar 2)))) : FnOk P w K mg base (L2.CX P w) (k + 1) f fd ps (spI2 K fl gl) := by
  refine F.okX Sc (fun vs H Q E h => h.1.trans hps.symm) (fun cdv Ar outer s H vs Q E hr h => ⟨_, body cdv Ar outer s H E, ?_⟩)
  obtain ⟨_, a, C, y, z, rfl, T, ⟨hf, hg⟩, ha, q⟩ := h
  refine ⟨y, rfl, .ref a, rfl, a, C, rfl, T, hf, .inl ⟨ha, fun dx h1 h2 => ?_⟩⟩
  refine ⟨z, rfl, .ref a, rfl, a, C, rfl, T, hg, .inr ⟨dx, [(fl, y)], upd_same, by rw [upd_ne h2, upd_same], by simp, q dx h1 h2⟩⟩
end
def sRaise (cls : Str) (fs : List Str) (gs : GA) : GS := fun δ B => gs δ (fun hs δ1 => rfx hs fun ds => ds.length = fs.length ∧ B.ex ⟨cls, (fs.zip ds).reverse⟩) B.ex
section
variable {A : Am} {F H : Hp} {σ : L2.St} {δ : Env}
/-- a new exception's dict -/
theorem er_new (S : Stt A F H σ δ) {dx : Addr} {fs : List (Str × V)} {gs : List (Str × D)} {cls : Str} (hd : H dx = none) (r : RepF A F gs fs) : ErAt A σ δ F H ⟨cls, gs⟩ F (upd H dx (.xd fs)) (.ref (A.ad cls)) (some dx) := by
  have fd : F dx = none := by
    cases e : F dx with
    | none => rfl
    | some u => rw [S.sub _ _ e] at hd; cases hd
  refine ⟨Le.refl F, S.sub.trans (Ex.new hd), S.tab.ext (Ex.new hd), fun a ps h => ?_, fun a o h hf _ _ => ⟨Ex.new hd _ _ h, hf⟩, fun a h => ?_, rfl, .inr ⟨dx, fs, rfl, upd_same, r⟩, fun e z => by cases z; exact fre_of hd⟩
  · by_cases hb : a = dx
    · subst hb; rw [upd_same] at h; cases h
    · rw [upd_ne hb] at h; exact S.ftab _ _ h
  · exact fun o e => h o (Ex.new hd _ _ e)
theorem heap_end {H : Hp} {a dx C : Addr} {u : HO} {v : HO} (h1 : H a = none) (h2 : dx ≠ a) : upd (del (upd (upd (upd H a u) dx v) a (exo a C (some dx))) a) dx v = upd H dx v := by
  funext b
  by_cases hb : b = dx
  · subst hb; rw [upd_same, upd_same]
  · rw [upd_ne hb, upd_ne hb]
    by_cases ha : b = a
    · subst ha; rw [del_same, h1]
    · rw [del_ne ha, upd_ne ha, upd_ne hb, upd_ne ha]

variable {X : Cx} {E : XK} {fI : Addr} {k : Nat} {fd : FuncData} {ps : List Str} {cls x fl gl : Str} {p pos pos1 : Pos} {e : Expr} {es : List Expr} {gs : GA}
theorem reps_len {F : Hp} {ds : List D} {vs : List V} (h : Reps A F ds vs) : vs.length = ds.length := h.length.symm
theorem ds_raise1 (T : OexC X.K (A.ad cls)) (hf : PySem.W.findIn X.K (.ref (A.ad cls)) fl = some none) (iC : PySem.W.findIn X.K (.ref (A.ad cls)) "__init__" = some (some (.ref fI))) (tI : PySem.W.typeIn X.K (.ref fI) = some (.type "function"))
    (F1 : FnOk X.prog X.w X.K X.mg X.base (L2.CX X.prog X.w) k fI fd ps (spI1 X.K fl)) (hr : Room (k + 1) X.A) (hb : Binds X.K fd ps []) (hg : Gl X x) (hm : X.mg x = some (.ref (A.ad cls))) (hc : X.calm = true) (tk : Takes X (fun cls d _ H => E cls d H)) (hx : Passes (L2.CX X.prog X.w) X EF)
    (ha : PA X (e :: es) (tAr A E gs)) (hdb : (x == ("__debug__" : Str)) = false := by decide) (he : starEach (e :: es) X.env = (false, eval e X.env) :: starEach es X.env := by rfl) (hpl : (backTo pos1 (starEach es X.env)).any (·.1) = false := by rfl) :
    PS X (.Raise (some (.Call (.Name x p) (e :: es) [] pos1)) none pos) (tS A E (sRaise cls [fl] gs)) :=
  ps_weak (ps_raise hc tk (pmk_oex T iC tI F1 hr hb .nil hx hg hm ha hdb he hpl)) fun Dn σ H ⟨F, δ, B, S, q, kn, kb, kc, kr, kx⟩ => ⟨F, δ, _, _, S, q, fun hs δ1 F1 H1 vs q1 S1 f1 a1 => by
    obtain ⟨ds, r1, hl, q2⟩ := rfx_at a1 q1
    match ds, r1, hl, q2 with
    | [d], .cons (v := v) hv .nil, _, q2 =>
      refine ⟨by show 1 ≤ 1000; decide, fun a h0 => ⟨rfl, a, A.ad cls, v, rfl, T, hf, upd_same, fun dx h1 h2 => ⟨rfl, dx, [(fl, v)], upd_same, by rw [upd_ne h2, upd_same], ?_, ?_⟩⟩⟩
      · rw [upd_ne h2] at h1; exact h1
      · rw [upd_ne h2] at h1
        have e0 : upd (del (upd (upd (upd H1 a (exo a (A.ad cls) none)) dx (exd dx [(fl, v)])) a (exo a (A.ad cls) (some dx))) a) dx (.xd [(fl, v)]) = upd H1 dx (.xd [(fl, v)]) := by
          funext b
          by_cases hb : b = dx
          · subst hb; rw [upd_same, upd_same]
          · rw [upd_ne hb, upd_ne hb]
            by_cases ha : b = a
            · subst ha; rw [del_same, h0]
            · rw [del_ne ha, upd_ne ha, upd_ne hb, upd_ne ha]
        rw [e0]
        exact kx _ _ _ _ _ q2 ((er_new S1 h1 (.cons hv .nil)).back' f1), kx⟩
theorem ds_raise2 (T : OexC X.K (A.ad cls)) (hf : PySem.W.findIn X.K (.ref (A.ad cls)) fl = some none) (hf2 : PySem.W.findIn X.K (.ref (A.ad cls)) gl = some none) (iC : PySem.W.findIn X.K (.ref (A.ad cls)) "__init__" = some (some (.ref fI))) (tI : PySem.W.typeIn X.K (.ref fI) = some (.type "function"))
    (F1 : FnOk X.prog X.w X.K X.mg X.base (L2.CX X.prog X.w) k fI fd ps (spI2 X.K fl gl)) (hr : Room (k + 1) X.A) (hb : Binds X.K fd ps []) (hg : Gl X x) (hm : X.mg x = some (.ref (A.ad cls))) (hc : X.calm = true) (tk : Takes X (fun cls d _ H => E cls d H)) (hx : Passes (L2.CX X.prog X.w) X EF)
    (ha : PA X (e :: es) (tAr A E gs)) (hdb : (x == ("__debug__" : Str)) = false := by decide) (he : starEach (e :: es) X.env = (false, eval e X.env) :: starEach es X.env := by rfl) (hpl : (backTo pos1 (starEach es X.env)).any (·.1) = false := by rfl) :
    PS X (.Raise (some (.Call (.Name x p) (e :: es) [] pos1)) none pos) (tS A E (sRaise cls [fl, gl] gs)) :=
  ps_weak (ps_raise hc tk (pmk_oex T iC tI F1 hr hb .nil hx hg hm ha hdb he hpl)) fun Dn σ H ⟨F, δ, B, S, q, kn, kb, kc, kr, kx⟩ => ⟨F, δ, _, _, S, q, fun hs δ1 F1 H1 vs q1 S1 f1 a1 => by
    obtain ⟨ds, r1, hl, q2⟩ := rfx_at a1 q1
    match ds, r1, hl, q2 with
    | [d, d'], .cons (v := v) hv (.cons (v := v') hv' .nil), _, q2 =>
      refine ⟨by show 2 ≤ 1000; decide, fun a h0 => ⟨rfl, a, A.ad cls, v, v', rfl, T, ⟨hf, hf2⟩, upd_same, fun dx h1 h2 => ⟨rfl, dx, [(gl, v'), (fl, v)], by rw [upd_ne h2.symm, upd_same], upd_same, ?_, ?_⟩⟩⟩
      · rw [upd_ne h2] at h1; exact h1
      · rw [upd_ne h2] at h1
        have e0 : upd (del (upd (upd (upd (upd H1 a (exo a (A.ad cls) none)) dx (exd dx [(fl, v)])) a (exo a (A.ad cls) (some dx))) dx (exd dx [(gl, v'), (fl, v)])) a) dx (.xd [(gl, v'), (fl, v)]) = upd H1 dx (.xd [(gl, v'), (fl, v)]) := by
          funext b
          by_cases hb : b = dx
          · subst hb; rw [upd_same, upd_same]
          · rw [upd_ne hb, upd_ne hb]
            by_cases ha : b = a
            · subst ha; rw [del_same, h0]
            · rw [del_ne ha, upd_ne hb, upd_ne ha, upd_ne hb, upd_ne ha]
        rw [e0]
        exact kx _ _ _ _ _ q2 ((er_new S1 h1 (.cons hv' (.cons hv .nil))).back' f1), kx⟩
end
end DL
namespace DL
open PySem L2 Evl PySem.Spec PyProof.Rows

/-! ### a, b = x, y -/
section
variable {A : Am} {F F' F'' H H' H'' : Hp} {σ σ' : L2.St} {δ δ' δ'' : Env} {v : V} {r : Sl}
/-- a name takes a result, behind other changes of names -/
theorem Stt.putS {i : Nat} (S : Stt A F' H' σ' δ') (f : Fr σ δ F H σ' δ' F' H') (R : RvS A σ δ H F' H' σ' δ' r v) (np : notPen δ' i) :
    Stt A F' H' (σ'.set i (some v)) (δ'.set i (some r)) ∧ Fr σ δ F H (σ'.set i (some v)) (δ'.set i (some r)) F' H' := by
  have hl := S.len
  have cse : ∀ {j : Nat} {s : Sl}, (δ'.set i (some r))[j]? = some (some s) → (j = i ∧ s = r ∧ (σ'.set i (some v))[j]? = some (some v)) ∨ (j ≠ i ∧ δ'[j]? = some (some s) ∧ (σ'.set i (some v))[j]? = σ'[j]?) := fun {j s} h => by
    by_cases hj : j = i
    · subst hj
      rw [List.getElem?_set, if_pos rfl] at h
      split at h
      · rename_i hlt
        cases h
        refine .inl ⟨rfl, rfl, ?_⟩
        rw [List.getElem?_set, if_pos rfl, if_pos (by omega)]
      · cases h
    · rw [List.getElem?_set_ne (Ne.symm hj)] at h
      exact .inr ⟨hj, h, List.getElem?_set_ne (Ne.symm hj)⟩
  have ownOf : ∀ {b : Addr}, Own (σ'.set i (some v)) (δ'.set i (some r)) H' b → Own σ' δ' H' b ∨ ∃ o a, r = .ow o ∧ v = .ref a ∧ Ft H' o a b := fun {b} h => by
    obtain ⟨j, o, a, h1, h2, h3⟩ := h
    rcases cse h1 with ⟨e, e1, e2⟩ | ⟨e, e1, e2⟩
    · rw [e2] at h2
      have hv : v = .ref a := Option.some.inj (Option.some.inj h2)
      exact .inr ⟨o, a, e1.symm, hv, h3⟩
    · exact .inl ⟨j, o, a, e1, e2 ▸ h2, h3⟩
  have np' := notPen_ne np
  refine ⟨⟨S.sub, S.tab, S.ftab, by simp [hl], fun j s h => ?_, fun j k o o' a a' b h1 h2 h3 h4 h5 h6 => ?_⟩, f.up, f.keep, f.there, fun b h => ?_, fun j h => ?_⟩
  · rcases cse h with ⟨e, e1, e2⟩ | ⟨e, e1, e2⟩
    · subst e1
      refine ⟨v, e2, ?_⟩
      cases s with
      | fz d => exact R
      | ow o =>
        obtain ⟨a, q1, q2, q3⟩ := R
        exact ⟨a, q1, q2, fun b hb => (q3 b hb).1⟩
    · obtain ⟨w, q1, q2⟩ := S.sl j s e1
      exact ⟨w, by rw [e2]; exact q1, q2⟩
  · rcases cse h1 with ⟨e, e1, e2⟩ | ⟨e, e1, e2⟩ <;> rcases cse h3 with ⟨g, g1, g2⟩ | ⟨g, g1, g2⟩
    · rw [e, g]
    · rw [e2] at h2
      rw [g2] at h4
      subst e1
      obtain ⟨a0, q1, q2, q3⟩ := R
      have hv : v = .ref a := Option.some.inj (Option.some.inj h2)
      rw [q1] at hv
      cases hv
      exact ((q3 b h5).2.1 ⟨k, o', a', g1, h4, h6⟩).elim
    · rw [e2] at h2
      rw [g2] at h4
      subst g1
      obtain ⟨a0, q1, q2, q3⟩ := R
      have hv : v = .ref a' := Option.some.inj (Option.some.inj h4)
      rw [q1] at hv
      cases hv
      exact ((q3 b h6).2.1 ⟨j, o, a, e1, h2, h5⟩).elim
    · rw [e2] at h2
      rw [g2] at h4
      exact S.sep j k o o' a a' b e1 h2 g1 h4 h5 h6
  · rcases ownOf h with z | ⟨o, a, q1, q2, q3⟩
    · exact f.own b z
    · subst q1
      obtain ⟨a0, e1, e2, e3⟩ := R
      rw [e1] at q2
      cases q2
      exact (e3 b q3).2.2
  · obtain ⟨z1, z2⟩ := f.pen j h
    have hj : j ≠ i := fun z => by subst z; exact np' z1
    rw [List.getElem?_set_ne (Ne.symm hj), List.getElem?_set_ne (Ne.symm hj)]
    exact ⟨z1, z2⟩
/-- a result stays a result while more is done -/
theorem RvAt.step (R : RvAt A σ δ H F' H' δ' r v) (f : Fr σ δ' F' H' σ δ'' F'' H'') : RvAt A σ δ H F'' H'' δ'' r v ∧ ∀ o, r = .ow o → ∀ a, v = .ref a → ∀ b, (Ft H'' o a b ↔ Ft H' o a b) ∧ (Ft H' o a b → ¬ Fre H' b ∧ ¬ Own σ δ' H' b) := by
  cases r with
  | fz d => exact ⟨Rep.mono f.up R, fun _ z => by cases z⟩
  | ow o =>
    obtain ⟨a, e, ho, hb⟩ := R
    have kp : ∀ b, Ft H' o a b → H'' b = H' b ∧ F'' b = none ∧ ¬ Fre H' b := fun b h => by
      have hne := ft_h ho h
      obtain ⟨u, hu⟩ := some_of_ne hne
      have nt : ∀ ps, u ≠ .tbl ps := fun ps z => by
        subst z
        cases o with
        | lst ds => obtain ⟨_, q, _⟩ := ho; cases h; rw [q] at hu; cases hu
        | dct ds => obtain ⟨_, q, _⟩ := ho; cases h; rw [q] at hu; cases hu
        | pen =>
          rcases h with rfl | h
          · obtain ⟨_, _, _, _, _, _, _, q, _⟩ := ho; rw [q] at hu; cases hu
          · obtain ⟨_, _, _, _, _, _, _, q, _⟩ := h; rw [q] at hu; cases hu
      obtain ⟨q1, q2⟩ := f.keep b u hu (hb b h).1 nt (hb b h).2.1
      exact ⟨q1.trans hu.symm, q2, fre_no hu nt⟩
    obtain ⟨q1, q2⟩ := ho.keep (H' := H'') f.up fun b h => (kp b h).1
    refine ⟨⟨a, e, q1, fun b h => ?_⟩, fun o' eo a' ea b => ?_⟩
    · have h' := (q2 b).mp h
      refine ⟨(kp b h').2.1, fun z => ?_, (hb b h').2.2⟩
      rcases f.own b z with z | z
      · exact (hb b h').2.1 z
      · exact (kp b h').2.2 z
    · cases eo
      rw [e] at ea; cases ea
      exact ⟨q2 b, fun h => ⟨(kp b h).2.2, (hb b h).2.1⟩⟩
end
def sPar2 (i j : Nat) (ga gb : GE) : GS := fun δ B => ga δ (fun r1 δ1 => gb δ1 (fun r2 δ2 => (isPen r1 = false ∧ notPen δ2 i ∧ notPen (δ2.set i (some r1)) j) ∧ B.nx ((δ2.set i (some r1)).set j (some r2))) B.ex) B.ex
section
variable {X : Cx} {A : Am} {E : XK} {i j : Nat} {x y : Str} {a b : Expr} {ga gb : GE} {px py pt pos : Pos} {kt k2 pt2}
theorem ds_par2 (hc : X.calm = true) (hN : X.N.Nodup) (hi : X.N[i]? = some x) (hj : X.N[j]? = some y) (hij : i ≠ j)
    (hx : X.env.scope.names.lookup x = some .local) (hy : X.env.scope.names.lookup y = some .local) (ha : PE X a (tE A E ga)) (hb : PE X b (tE A E gb)) (hsa : starEach [a, b] X.env = (false, eval a X.env) :: starEach [b] X.env) (hsb : starEach [b] X.env = (false, eval b X.env) :: starEach [] X.env)
    (hw : swappedStores [.Tuple [.Name x px, .Name y py] kt pt] (.Tuple [a, b] k2 pt2) X.env = pure (some [x, y]))
    (hs : swapsWithSole [.Tuple [.Name x px, .Name y py] kt pt] (.Tuple [a, b] k2 pt2) pos.line X.env = pure false := by rfl) :
    PS X (.Assign [.Tuple [.Name x px, .Name y py] kt pt] (.Tuple [a, b] k2 pt2) pos) (tS A E (sPar2 i j ga gb)) :=
  ps_weak (ps_par hc hN hi hj hij hx hy (pa_cons ha (pa_cons hb pa_nil hsb) hsa) hw hs) fun D σ H ⟨F, δ, B, S, q, kn, kb, kc, kr, kx⟩ => ⟨F, δ, _, _, S, q, fun r1 δ1 F1 H1 v1 q1 S1 f1 R1 => ⟨F1, δ1, _, _, S1, q1, fun r2 δ2 F2 H2 v2 ⟨⟨np1, n1, n2⟩, q2⟩ S2 f2 R2 => by
    obtain ⟨R1', d1⟩ := R1.step f2
    obtain ⟨S3, f3⟩ := S2.putS (i := i) (f1.trans f2) (show RvS A σ δ H F2 H2 σ δ2 r1 v1 by cases r1 <;> exact R1') n1
    have R2' : RvS A σ δ H F2 H2 (σ.set i (some v1)) (δ2.set i (some r1)) r2 v2 := by
      have R2b := R2.back f1
      cases r2 with
      | fz d => exact R2
      | ow o =>
        obtain ⟨c, e, ho, hb⟩ := R2b
        obtain ⟨c', e', ho', hb'⟩ := R2
        rw [e] at e'; cases e'
        refine ⟨c, e, ho, fun b h => ⟨(hb b h).1, fun ⟨k, o', a', g1, g2, g3⟩ => ?_, (hb b h).2.2⟩⟩
        by_cases hk : k = i
        · subst hk
          rw [List.getElem?_set, if_pos rfl] at g1 g2
          split at g1
          · cases g1
            split at g2
            · have hv : v1 = .ref a' := Option.some.inj (Option.some.inj g2)
              obtain ⟨z1, z2⟩ := d1 o' rfl a' hv b
              obtain ⟨z3, z4⟩ := z2 (z1.mp g3)
              rcases (hb' b h).2.2 with z | z
              · exact z4 z
              · exact z3 z
            · cases g2
          · cases g1
        · rw [List.getElem?_set_ne (Ne.symm hk)] at g1 g2
          exact (hb b h).2.1 ⟨k, o', a', g1, g2, g3⟩
    obtain ⟨S4, f4⟩ := S3.putS (i := j) f3 R2' n2
    exact ⟨v1, v2, rfl, kn _ _ _ _ q2 S4 f4⟩, fun x _ _ _ _ z er => kx x _ _ _ _ z (er.back f1)⟩, kx⟩
end
theorem pe_gl {X : Cx} {x : Str} {v : V} {pos : Pos} (hg : Gl X x) (h : ∃ u, X.mg x = some u ∧ RelV v u) (hd : (x == ("__debug__" : Str)) = false := by decide) : PE X (.Name x pos) (tC v) := by
  obtain ⟨u, h1, h2⟩ := h
  exact pe_glob hg h1 h2 hd
theorem pe_bty {X : Cx} {x : Str} {T : String} {pos : Pos} (hg : Gl X x) (hm : X.mg x = none) (hv : bootBuiltins x = some (.type T)) (hn : x ≠ "__name__" := by decide) (hdb : (x == ("__debug__" : Str)) = false := by decide) : PE X (.Name x pos) (tC (.ty T)) :=
  ⟨fun pins s σ H Q I h => ld_blt I hg hm hv ⟨.ty T, H, I, rfl, h⟩ hn hdb⟩
section
variable {X : Cx}
theorem op_isN0 : OpR X (compareOp .Is) (fun x y H Q => y = .non ∧ Q (.bl (xor false (decide (x = .non)))) H) := by
  intro pins s σ H x y v u Q I rx ry h
  exact op_isN pins s σ H x y v u Q I rx ry ⟨h.1, by simpa using h.2⟩
theorem op_notN0 : OpR X (compareOp .IsNot) (fun x y H Q => y = .non ∧ Q (.bl (xor true (decide (x = .non)))) H) := by
  intro pins s σ H x y v u Q I rx ry h
  exact L2.op_notN pins s σ H x y v u Q I rx ry ⟨h.1, by simpa using h.2⟩
theorem isB_pl {x : V} {v : Value} (h : plV x = true) (r : RelV x v) (b : Bool) : plainIs v (.bool b) = true ∧ (x ≠ .bl b → v ≠ .bool b) ∧ (x = .bl b → v = .bool b) := by
  cases x with
  | non => cases (show v = Value.none from r); exact ⟨rfl, fun _ z => (by cases z), fun z => (by cases z)⟩
  | bl c => cases (show v = Value.bool c from r); exact ⟨rfl, fun h z => h (by cases z; rfl), fun z => (by cases z; rfl)⟩
  | int i => obtain ⟨t, rfl⟩ := (show ∃ t, v = Value.int i t from r); exact ⟨rfl, fun _ z => (by cases z), fun z => (by cases z)⟩
  | str i => obtain ⟨t, rfl⟩ := (show ∃ t, v = Value.str i t from r); exact ⟨rfl, fun _ z => (by cases z), fun z => (by cases z)⟩
  | ref a => cases (show v = Value.ref a from r); exact ⟨rfl, fun _ z => (by cases z), fun z => (by cases z)⟩
  | ty n => cases (show v = Value.type n from r); exact ⟨rfl, fun _ z => (by cases z), fun z => (by cases z)⟩
  | _ => cases h
theorem op_isB0 : OpR X (compareOp .Is) (rIsB2 false) := by
  intro pins s σ H x y v u Q I rx ry h
  obtain ⟨b, hp, rfl, q⟩ := h
  cases (show u = Value.bool b from ry)
  obtain ⟨h1, h2, h3⟩ := isB_pl hp rx b
  by_cases e : x = .bl b
  · subst e
    cases h3 rfl
    exact wpAny_is_self rfl ⟨.bl true, H, I, rfl, by simpa using q⟩
  · exact wpAny_is_other h1 (h2 e) ⟨.bl false, H, I, rfl, by simpa [e] using q⟩
theorem op_notB : OpR X (compareOp .IsNot) (rIsB2 true) := by
  intro pins s σ H x y v u Q I rx ry h
  obtain ⟨b, hp, rfl, q⟩ := h
  cases (show u = Value.bool b from ry)
  obtain ⟨h1, h2, h3⟩ := isB_pl hp rx b
  by_cases e : x = .bl b
  · subst e
    cases h3 rfl
    exact wpAny_isNot_self rfl ⟨.bl false, H, I, rfl, by simpa using q⟩
  · exact wpAny_isNot_other h1 (h2 e) ⟨.bl true, H, I, rfl, by simpa [e] using q⟩
end
theorem fun_uniq {K : PySem.W.Frag} {x qual : Str} {st : Stmt} {f : Addr} {fd fd' : FuncData} (F : Fun K x qual st f fd) (G : Fun K x qual st f fd') : fd = fd' := by
  obtain ⟨_, _, _, _, _, _, _, _, _, e1, h1, _⟩ := F.ex
  obtain ⟨_, _, _, _, _, _, _, _, _, e2, h2, _⟩ := G.ex
  rw [h1] at h2
  cases h2
  rfl
theorem u65 {k : Nat} {A : Around} (r : Room k A) : A.units + 65 < cLine := by have := r.un; omega
theorem u64 {k : Nat} {A : Around} (r : Room k A) : A.units + 64 < cLine := by have := r.un; omega
theorem u1 {k : Nat} {A : Around} (r : Room k A) : A.units + 1 < cLine := by have := r.un; omega
end DL
namespace DL
open PySem L2 Evl PySem.Spec PyProof.Rows

/-! ### instances: a field read; an object of one field made -/
def eFld (cs : List Str) (f : Str) (g : GE) : GE := fun δ P X => g δ (fun r δ' => vw r fun d => match d with
  | .ins C fs => cs.contains C = true ∧ (match fs.lookup f with | some d' => P (.fz d') δ' | none => False)
  | _ => False) X
theorem RepF.look {A : Am} {F : Hp} {f : Str} : ∀ {gs : List (Str × D)} {fs : List (Str × V)} {d : D}, RepF A F gs fs → gs.lookup f = some d → ∃ v, fs.lookup f = some v ∧ Rep A F d v
  | _ :: gs, _, d, @RepF.cons _ _ n d0 v0 _ vs h hs, e => by
    cases hn : (f == n) with
    | true =>
      rw [List.lookup_cons, hn] at e
      cases e
      exact ⟨v0, by rw [List.lookup_cons, hn], h⟩
    | false =>
      rw [List.lookup_cons, hn] at e
      obtain ⟨v, h1, h2⟩ := RepF.look hs e
      exact ⟨v, by rw [List.lookup_cons, hn]; exact h1, h2⟩
structure FldOk (A : Am) (C f : Str) : Prop where
  cl : Cls A.K (A.ad C)
  no : NoAttr A.K (A.ad C) f
section
variable {X : Cx} {A : Am} {E : XK} {e : Expr} {g : GE} {f : Str} {pos : Pos}
theorem de_fld (hK : A.K = X.K) {cs : List Str} (ok : ∀ C ∈ cs, FldOk A C f) (he : PE X e (tE A E g)) (hb : attributeBase e f X.env (eval e X.env) = eval e X.env := by rfl) : PE X (.Attribute e f pos) (tE A E (eFld cs f g)) :=
  pe_weak (pe_fld he hb) fun σ H Q ⟨F, δ, P, Z, S, q, k, kx⟩ => ⟨F, δ, _, Z, S, q, fun r δ1 F1 H1 v q1 S1 f1 R => by
    obtain ⟨F2, dd, _, S2, f2, hr, q2⟩ := frz_tmp S1 f1 R rfl q1
    cases hr with
    | @ins a dx C fs gs h1 h2 r =>
      obtain ⟨hc, q3⟩ := q2
      have hc' : C ∈ cs := by simpa using hc
      cases hl : gs.lookup f with
      | none => rw [hl] at q3; exact q3.elim
      | some d' =>
        rw [hl] at q3
        obtain ⟨w, hw, hr'⟩ := r.look hl
        obtain ⟨c1, c2⟩ := ok C hc'
        rw [hK] at c1 c2
        exact ⟨a, A.ad C, dx, fs, w, rfl, S2.sub _ _ h1, c1, c2, hw, k _ _ _ _ _ q3 S2 f2 hr'⟩
    | _ => exact (q2 : False).elim, kx⟩
end
/-- C(..), whose __init__ is: if test: raise; self.f = value -/
def dfI (m : Nat) (C f : Str) (gt : GT) (gr : GS) (ge : GE) : DF := fun ss P X => gt (none :: (up1 ss ++ List.replicate m none)) (fun b δ1 => if b = true then gr δ1 { nx := fun _ => False, rt := fun _ => False, bk := fun _ => False, ct := fun _ => False, ex := X }
  else ge δ1 (fun r _ => vw r fun d => P (.fz (.ins C [(f, d)]))) X) X
def spIni (A : Am) (n : Nat) (C f : Str) (df : DF) : Sp := fun vs H Q E => vs.length = n + 1 ∧ ∃ (x dx : Addr) (ws : List V) (F : Hp) (ss : List Sl) (P : Sl → Prop) (X : DX → Prop), vs = .ref x :: ws ∧ ws.length = n ∧ H x = some (.ins (A.ad C) dx []) ∧ H dx = some (.own x) ∧ F x = none ∧ F dx = none ∧
  Stt A F H (up1 ws) (up1 ss) ∧ ss.all okArg = true ∧ (∀ b, Own (up1 ws) (up1 ss) H b → b ≠ x ∧ b ≠ dx) ∧ df ss P X ∧
  (∀ d v F' H', P (.fz (.ins C [(f, d)])) → Rep A F' d v → Ret A F H ws ss F' H' (.fz d) v → Q .non (upd H' x (.ins (A.ad C) dx [(f, v)]))) ∧ (∀ x F' H' cls d, X x → ErAt A (up1 ws) (up1 ss) F H x F' H' cls d → E cls d H')
section
variable {P : Program} {w : World} {base : Heap} {A : Am}
/-- slots behind an unknown one -/
theorem cons_st {F H : Hp} {σ : L2.St} {δ : Env} {v : V} (S : Stt A F H σ δ) : Stt A F H (some v :: σ) (none :: δ) ∧ ∀ b, Own (some v :: σ) (none :: δ) H b ↔ Own σ δ H b := by
  refine ⟨⟨S.sub, S.tab, S.ftab, by simp [S.len], fun i s h => ?_, fun i j o o' a a' b h1 h2 h3 h4 h5 h6 => ?_⟩, fun b => ⟨fun ⟨i, o, a, h1, h2, h3⟩ => ?_, fun ⟨i, o, a, h1, h2, h3⟩ => ⟨i + 1, o, a, by simpa using h1, by simpa using h2, h3⟩⟩⟩
  · cases i with
    | zero => simp at h
    | succ i => simp at h; simpa using S.sl i s h
  · cases i with
    | zero => simp at h1
    | succ i =>
      cases j with
      | zero => simp at h3
      | succ j => simp at h1 h2 h3 h4; rw [S.sep i j o o' a a' b h1 h2 h3 h4 h5 h6]
  · cases i with
    | zero => simp at h1
    | succ i => exact ⟨i, o, a, by simpa using h1, by simpa using h2, h3⟩
theorem ok_ini {qual x : Str} {st : Stmt} {f : Addr} {fd : FuncData} {N ps : List Str} {k n : Nat} {C fl : Str} {gt : GT} {gr : GS} {ge : GE} (ok : FldOk A C fl) (F : Fun A.K x qual st f fd) (Sc : FnScope N ps (defScope st)) (hps : ps.length = n + 1)
    (body : ∀ (cdv : Value) (Ar : Around) (outer : List PySem.Env) (s : Shared) (H : Hp) (E : XK), Room k (Ar.deeper (envOfC qual (defScope st) s.heap.objs.size f cdv)) →
      PSs (cxOf (L2.CX P w) P w A.K A.mg base N qual (defScope st) f cdv Ar outer s H E) (defBody st) (tSeq (tIfS (tT A E gt) (tS A E gr) tNext) (sFld A.K (tVar 0) (tE A E ge) fl))) :
    FnOk P w A.K A.mg base (L2.CX P w) (k + 1) f fd ps (spIni A n C fl (dfI (N.length - ps.length) C fl gt gr ge)) := by
  refine F.okX Sc (fun vs H Q E h => h.1.trans hps.symm) (fun cdv Ar outer s H vs Q E hr h => ⟨_, body cdv Ar outer s H E hr, ?_⟩)
  obtain ⟨hl, x, dx, ws, F0, ss, P0, X0, rfl, hw, hx, hdx, fx, fdx, S, oka, hno, q, kq, kx⟩ := h
  obtain ⟨S1, own1, sl1, v1⟩ := start_st (N := N.drop 1) (m := N.length - ps.length) (by rw [List.length_drop]; omega) S
  obtain ⟨S2, own2⟩ := cons_st (v := .ref x) S1
  have es : start N (.ref x :: ws) = some (.ref x) :: start (N.drop 1) ws := by
    unfold L2.start
    rw [List.length_drop]
    simp only [List.map_cons, List.cons_append, List.length_cons]
    congr 3
    omega
  rw [es]
  have ownA : ∀ b, Own (some (.ref x) :: start (N.drop 1) ws) (none :: (up1 ss ++ List.replicate (N.length - ps.length) none)) H b → Own (up1 ws) (up1 ss) H b := fun b h => (own1 b).mp ((own2 b).mp h)
  have nx0 : ¬ Own (some (.ref x) :: start (N.drop 1) ws) (none :: (up1 ss ++ List.replicate (N.length - ps.length) none)) H x := fun z => (hno x (ownA x z)).1 rfl
  have er : ∀ {y : DX} {F' H' : Hp} {cls : Value} {d : Option Addr}, ErAt A (some (.ref x) :: start (N.drop 1) ws) (none :: (up1 ss ++ List.replicate (N.length - ps.length) none)) F0 H y F' H' cls d → ErAt A (up1 ws) (up1 ss) F0 H y F' H' cls d := fun h => ⟨h.up, h.sub, h.tab, h.ftab, fun a o h0 hf n no => h.keep a o h0 hf n fun z => no (ownA a z), h.there, h.cl, h.fs, h.new⟩
  refine ⟨F0, _, _, _, S2, q, fun b δ1 F1 H1 q1 S3 f3 => ?_, fun y F' H' cls d z e => kx y F' H' cls d z (er e)⟩
  cases b with
  | true => exact ⟨F1, δ1, _, S3, q1, fun _ _ _ _ z => z.elim, fun _ _ _ _ z => z.elim, fun _ _ _ _ z => z.elim, fun _ _ _ _ _ _ z => z.elim, fun y F' H' cls d z e => kx y F' H' cls d z (er (e.back' f3))⟩
  | false =>
    refine ⟨F1, δ1, _, _, S3, q1, fun r δ2 F2 H2 v q2 S4 f4 R => ?_, fun y F' H' cls d z e => kx y F' H' cls d z (er (e.back' f3))⟩
    obtain ⟨F5, dd, _, S5, f5, hr5, q5⟩ := frz_tmp S4 (f3.trans f4) (R.back f3) rfl q2
    obtain ⟨k1, k2⟩ := f5.keep x _ hx fx (fun _ z => by cases z) nx0
    refine ⟨.ref x, rfl, x, A.ad C, dx, [], rfl, k1, ok.cl, ok.no, by show 0 < 1000; decide, kq dd v F5 H2 q5 hr5 ⟨f5.up, S5.sub, S5.tab, S5.ftab, fun a o h0 hf n no => f5.keep a o h0 hf n fun z => no (ownA a z), f5.there, fun i a h1 h2 => ?_, hr5⟩⟩
    obtain ⟨z1, z2⟩ := f5.pen (i + 1) (by simpa using (sl1 i _).mpr h1)
    have z3 : (some (V.ref x) :: start (N.drop 1) ws)[i + 1]? = some (some (.ref a)) := by simpa using v1 i _ h2
    obtain ⟨u, e, a', e1, hp, hb⟩ := S5.sl (i + 1) _ z1
    rw [z3] at e; cases e; cases e1
    exact ⟨hp, fun b h => ⟨hb b h, (f5.own b ⟨i + 1, .pen, a, z1, z3, h⟩).imp (ownA b) id⟩⟩
end
section
variable {X : Cx} {A : Am} {E : XK} {k n : Nat} {f : Addr} {fd : FuncData} {ps : List Str} {C fl x : Str} {p pos : Pos} {e : Expr} {es : List Expr} {gs : GA} {df : DF}
/-- data arguments only -/
def eMake (n : Nat) (df : DF) (gs : GA) : GE := fun δ P X => gs δ (fun hs δ1 => rfx hs fun ds => ds.length = n ∧ df (ds.map .fz) (fun r => P r δ1) X) X
theorem de_make (hK : A.K = X.K) (hmg : A.mg = X.mg) (M : Mk X.K (A.ad C) f) (F : FnOk X.prog X.w X.K X.mg X.base (L2.CX X.prog X.w) k f fd ps (spIni A n C fl df)) (hr : Room (k + 1) X.A) (hg : Gl X x) (hm : X.mg x = some (.ref (A.ad C))) (hb : Binds X.K fd ps []) (hx : Passes (L2.CX X.prog X.w) X E)
    (ha : PA X (e :: es) (tAr A E gs)) (hdb : (x == ("__debug__" : Str)) = false := by decide) (he : starEach (e :: es) X.env = (false, eval e X.env) :: starEach es X.env := by rfl) (hpl : (backTo pos (starEach es X.env)).any (·.1) = false := by rfl) :
    PE X (.Call (.Name x p) (e :: es) [] pos) (tE A E (eMake n df gs)) :=
  pe_weak (pe_make M F hr hg hm hb .nil hx ha hdb he hpl) fun σ H Q ⟨F0, δ, P, Z, S, q, kk, kx⟩ => ⟨F0, δ, _, Z, S, q, fun hs δ1 F1 H1 vs q1 S1 f1 a1 => by
    obtain ⟨ds, r1, hl, q2⟩ := rfx_at a1 q1
    intro y dy hy hdy hne
    have fy : ∀ {b : Addr}, H1 b = none → F1 b = none := fun {b} hb => by
      cases e : F1 b with
      | none => rfl
      | some u => rw [S1.sub _ _ e] at hb; cases hb
    -- the new object ahead of its __init__
    have hup : Ex H1 (upd (upd H1 dy (.own y)) y (.ins (A.ad C) dy [])) := (Ex.new hdy).trans (Ex.new (by rw [upd_ne hne.symm]; exact hy))
    have n1 : New A F1 H1 F1 (upd (upd H1 dy (.own y)) y (.ins (A.ad C) dy [])) (.fz .non) .non := ⟨Ex.refl _, hup, S1.sub.trans hup, fun _ _ => rfl, fun b ps z => by
      by_cases hb : b = y
      · subst hb; rw [upd_same] at z; cases z
      · rw [upd_ne hb] at z
        by_cases hb2 : b = dy
        · subst hb2; rw [upd_same] at z; cases z
        · rw [upd_ne hb2] at z; exact z, .non⟩
    obtain ⟨S2, f2, _⟩ := n1.stt S1
    have noo : ∀ b, ¬ Own (up1 vs) (up1 (ds.map Sl.fz)) (upd (upd H1 dy (.own y)) y (.ins (A.ad C) dy [])) b := fun b ⟨i, o, a, h1, _, _⟩ => by
      have := up_get.mp h1
      rw [List.getElem?_map] at this
      cases hd : ds[i]? with
      | none => rw [hd] at this; cases this
      | some d => rw [hd] at this; cases this
    have S3 : Stt A F1 (upd (upd H1 dy (.own y)) y (.ins (A.ad C) dy [])) (up1 vs) (up1 (ds.map Sl.fz)) := ⟨S2.sub, S2.tab, S2.ftab, by simp [up1, r1.length], fun i s h => by
      have h' := up_get.mp h
      rw [List.getElem?_map] at h'
      cases hd : ds[i]? with
      | none => rw [hd] at h'; cases h'
      | some d =>
        rw [hd] at h'
        cases h'
        obtain ⟨v, hv, hr⟩ := r1.get hd
        exact ⟨v, up_get.mpr hv, hr⟩, fun i j o o' a a' b h1 => by
      have := up_get.mp h1
      rw [List.getElem?_map] at this
      cases hd : ds[i]? with
      | none => rw [hd] at this; cases this
      | some d => rw [hd] at this; cases this⟩
    rw [List.append_nil]
    refine ⟨by simp [← r1.length, hl], y, dy, vs, F1, ds.map Sl.fz, _, _, rfl, by rw [← r1.length]; exact hl, upd_same, by rw [upd_ne hne, upd_same], fy hy, fy hdy, S3, by simp [okArg], fun b z => (noo b z).elim, q2, fun d v F' H' hp hrv R => ⟨rfl, ?_⟩, fun z F' H' cls d hz er => kx z F' H' cls d hz ?_⟩
    · have hp := hp
      obtain ⟨kx1, kx2⟩ := R.keep y _ upd_same (fy hy) (fun _ z => by cases z) (noo y)
      obtain ⟨kd1, kd2⟩ := R.keep dy _ (by rw [upd_ne hne, upd_same]) (fy hdy) (fun _ z => by cases z) (noo dy)
      have hdy' : dy ≠ y := hne
      -- the state behind, the object frozen
      have up2 : Le F' (upd (upd F' dy (.own y)) y (.ins (A.ad C) dy [(fl, v)])) := (Le.new kd2).trans (Le.new (by rw [upd_ne hdy'.symm]; exact kx2))
      have fr : Fr σ δ1 F1 H1 σ δ1 (upd (upd F' dy (.own y)) y (.ins (A.ad C) dy [(fl, v)])) (upd H' y (.ins (A.ad C) dy [(fl, v)])) ∧ Stt A (upd (upd F' dy (.own y)) y (.ins (A.ad C) dy [(fl, v)])) (upd H' y (.ins (A.ad C) dy [(fl, v)])) σ δ1 := by
        have ky : ∀ {b : Addr}, H1 b ≠ none → b ≠ y ∧ b ≠ dy := fun {b} h => ⟨fun z => by subst z; exact h hy, fun z => by subst z; exact h hdy⟩
        have kp : ∀ a o, H1 a = some o → F1 a = none → (∀ ps, o ≠ .tbl ps) → upd H' y (.ins (A.ad C) dy [(fl, v)]) a = some o ∧ upd (upd F' dy (.own y)) y (.ins (A.ad C) dy [(fl, v)]) a = none := fun a o h hf n => by
          obtain ⟨e1, e2⟩ := ky (b := a) (by rw [h]; simp)
          obtain ⟨q1, q2⟩ := R.keep a o (hup _ _ h) hf n (noo a)
          rw [upd_ne e1, upd_ne e1, upd_ne e2]
          exact ⟨q1, q2⟩
        have slot : ∀ (j : Nat) (o : Ow) (c : Addr), δ1[j]? = some (some (.ow o)) → σ[j]? = some (some (.ref c)) → OwAt A (upd (upd F' dy (.own y)) y (.ins (A.ad C) dy [(fl, v)])) (upd H' y (.ins (A.ad C) dy [(fl, v)])) o c ∧ (∀ b, Ft (upd H' y (.ins (A.ad C) dy [(fl, v)])) o c b ↔ Ft H1 o c b) ∧ ∀ b, Ft H1 o c b → upd (upd F' dy (.own y)) y (.ins (A.ad C) dy [(fl, v)]) b = none := fun j o c h1 h2 => by
          obtain ⟨w, e1, c', e2, ho, hf⟩ := S1.sl j _ h1
          rw [h2] at e1; cases e1; cases e2
          have kk : ∀ b, Ft H1 o c b → upd H' y (.ins (A.ad C) dy [(fl, v)]) b = H1 b ∧ upd (upd F' dy (.own y)) y (.ins (A.ad C) dy [(fl, v)]) b = none := fun b hb => by
            obtain ⟨u, hu⟩ := some_of_ne (ft_h ho hb)
            have nt : ∀ ps, u ≠ .tbl ps := fun ps z => by
              subst z
              cases o with
              | lst ds => obtain ⟨_, q, _⟩ := ho; cases hb; rw [q] at hu; cases hu
              | dct ds => obtain ⟨_, q, _⟩ := ho; cases hb; rw [q] at hu; cases hu
              | pen =>
                rcases hb with rfl | hb
                · obtain ⟨_, _, _, _, _, _, _, q, _⟩ := ho; rw [q] at hu; cases hu
                · obtain ⟨_, _, _, _, _, _, _, q, _⟩ := hb; rw [q] at hu; cases hu
            obtain ⟨q1, q2⟩ := kp b u hu (hf b hb) nt
            exact ⟨q1.trans hu.symm, q2⟩
          obtain ⟨q1, q2⟩ := ho.keep (H' := upd H' y (.ins (A.ad C) dy [(fl, v)])) (R.up.trans up2) fun b hb => (kk b hb).1
          exact ⟨q1, q2, fun b hb => (kk b hb).2⟩
        have own' : ∀ b, Own σ δ1 (upd H' y (.ins (A.ad C) dy [(fl, v)])) b → Own σ δ1 H1 b := fun b ⟨j, o, c, h1, h2, h3⟩ => ⟨j, o, c, h1, h2, ((slot j o c h1 h2).2.1 b).mp h3⟩
        refine ⟨⟨R.up.trans up2, fun a o h hf n _ => kp a o h hf n, fun a h => ?_, fun b h => .inl (own' b h), fun _ h => ⟨h, rfl⟩⟩, fun b u h => ?_, ?_, fun b ps h => ?_, S1.len, fun j s h => ?_, fun i j o o' a a' b h1 h2 h3 h4 h5 h6 => S1.sep i j o o' a a' b h1 h2 h3 h4 (((slot i o a h1 h2).2.1 b).mp h5) (((slot j o' a' h3 h4).2.1 b).mp h6)⟩
        · by_cases ha : a = y
          · subst ha; exact fre_of hy
          · have := R.there a fun o e => h o (by rw [upd_ne ha]; exact e)
            by_cases hb : a = dy
            · subst hb; exact fre_of hdy
            · exact fun o e => this o (by rw [upd_ne ha, upd_ne hb]; exact e)
        · by_cases hb : b = y
          · subst hb; rw [upd_same] at h ⊢; exact h
          · rw [upd_ne hb] at h ⊢
            by_cases hb2 : b = dy
            · subst hb2; rw [upd_same] at h; rw [kd1]; exact h
            · rw [upd_ne hb2] at h; exact R.sub _ _ h
        · intro t ht
          obtain ⟨ps, h1, h2, h3⟩ := R.tab t ht
          have hk : ∀ {b : Addr} {u : HO}, H' b = some u → u ≠ .ins (A.ad C) dy [] → upd H' y (.ins (A.ad C) dy [(fl, v)]) b = some u := fun {b u} h n => by
            by_cases hb : b = y
            · subst hb; rw [kx1] at h; cases h; exact (n rfl).elim
            · rw [upd_ne hb]; exact h
          refine ⟨ps, hk h1 (fun z => by cases z), h2, fun pos cv hc => ?_⟩
          obtain ⟨c, e1, e2⟩ := h3 pos cv hc
          exact ⟨c, e1, hk e2 (fun z => by cases z)⟩
        · by_cases hb : b = y
          · subst hb; rw [upd_same] at h; cases h
          · rw [upd_ne hb] at h ⊢
            by_cases hb2 : b = dy
            · subst hb2; rw [kd1] at h; cases h
            · rw [upd_ne hb2]; exact R.ftab _ _ h
        · obtain ⟨w, e, q⟩ := S1.sl j s h
          refine ⟨w, e, ?_⟩
          cases s with
          | fz d => exact Rep.mono (R.up.trans up2) q
          | ow o =>
            obtain ⟨c, e1, _, _⟩ := q
            subst e1
            obtain ⟨q1, q2, q3⟩ := slot j o c h e
            exact ⟨c, rfl, q1, fun b hb => q3 b ((q2 b).mp hb)⟩
      obtain ⟨fr, S5⟩ := fr
      exact kk _ _ _ _ _ hp S5 (f1.trans fr) (.ins upd_same (by rw [upd_ne hdy', upd_same]) (.cons (hrv.mono up2) .nil))
    · exact ErAt.back (f1.trans f2) ⟨er.up, er.sub, er.tab, er.ftab, fun a o h0 hf n no => er.keep a o h0 hf n (noo a), er.there, er.cl, er.fs, er.new⟩, kx⟩
end
end DL
namespace DL
open PySem L2 Evl PySem.Spec PyProof.Rows
/-! ### what the walk asks of the text (FI: a def, RI: a class with __init__, XI: an own error) -/
structure FI (A : Am) (x : Str) (st : Stmt) (ps : List Str) : Prop where
  mg : A.mg x = some (.ref (A.ad x))
  kp : PySem.W.keepIn A.K (.ref (A.ad x)) = true
  fn : ∃ fd, Fun A.K x x st (A.ad x) fd ∧ Binds A.K fd ps []
theorem FI.gl {A : Am} {x : Str} {st : Stmt} {ps : List Str} (h : FI A x st ps) : ∃ u, A.mg x = some u ∧ RelV (.ref (A.ad x)) u := ⟨_, h.mg, rfl⟩
structure RI (A : Am) (C qual : Str) (st : Stmt) (ps : List Str) : Prop where
  mg : A.mg C = some (.ref (A.ad C))
  fn : ∃ f fd, Mk A.K (A.ad C) f ∧ Fun A.K "__init__" qual st f fd ∧ Binds A.K fd ps []
structure XI1 (A : Am) (C qual : Str) (st : Stmt) (ps : List Str) (f1 : Str) : Prop where
  mg : A.mg C = some (.ref (A.ad C))
  ok : OexC A.K (A.ad C)
  no1 : PySem.W.findIn A.K (.ref (A.ad C)) f1 = some none
  fn : ∃ f fd, PySem.W.findIn A.K (.ref (A.ad C)) "__init__" = some (some (.ref f)) ∧ PySem.W.typeIn A.K (.ref f) = some (.type "function") ∧ Fun A.K "__init__" qual st f fd ∧ Binds A.K fd ps []
structure XI2 (A : Am) (C qual : Str) (st : Stmt) (ps : List Str) (f1 f2 : Str) : Prop where
  mg : A.mg C = some (.ref (A.ad C))
  ok : OexC A.K (A.ad C)
  no1 : PySem.W.findIn A.K (.ref (A.ad C)) f1 = some none
  no2 : PySem.W.findIn A.K (.ref (A.ad C)) f2 = some none
  fn : ∃ f fd, PySem.W.findIn A.K (.ref (A.ad C)) "__init__" = some (some (.ref f)) ∧ PySem.W.typeIn A.K (.ref f) = some (.type "function") ∧ Fun A.K "__init__" qual st f fd ∧ Binds A.K fd ps []
end DL
namespace DL
open PySem L2 Evl PySem.Spec PyProof.Rows

/-! ### the pen: _law_draw -/
def Pv (te : TE) (σ : L2.St) (H : Hp) (v : V) : Prop := ∀ Q : VK, Q v H → te σ H Q
section
variable {σ : L2.St} {H : Hp} {p q : Addr} {a g c f : Int} {x y z v : V} {ta tb : TE} {r : R2}
theorem pv_v {i : Nat} (h : σ[i]? = some (some v)) : Pv (tVar i) σ H v := fun Q hq => ⟨v, h, hq⟩
theorem pv_c : Pv (tC v) σ H v := fun Q hq => hq
theorem pv_get {k : Str} (h0 : σ[0]? = some (some (.ref p))) (hp : H p = some (.dK (penKvs q a g c f))) (hv : valV (penKvs q a g c f) (.inr k) = some v) : Pv (tDGet (tVar 0) (tC (.str k))) σ H v := fun Q hq =>
  ⟨_, h0, p, v, rfl, .inl ⟨_, .inr k, .inl hp, rfl, hv.symm⟩, hq⟩
theorem pv_op (ha : Pv ta σ H x) (hb : Pv tb σ H y) (hr : ∀ Q : VK, Q z H → r x y H Q) : Pv (tOp r ta tb) σ H z := fun Q hq => ha _ (hb _ (hr Q hq))
theorem pv_int {i : Int} (ha : Pv ta σ H (.int i)) : Pv (tCB (fun xs H Q => (∃ i, xs = [.int i] ∧ Q (.int i) H) ∨ ∃ k, xs = [.bl k] ∧ Q (.int (if k then 1 else 0)) H) (tCons ta tNil)) σ H (.int i) := fun Q hq => ha _ (.inl ⟨i, rfl, hq⟩)
theorem kne1 : ¬ (("cells" : Str) = "at") := by decide +kernel
theorem k_ne {s t : Str} (h : ¬ s = t) : ¬ (Sum.inr s : Key) = Sum.inr t := fun z => h (Sum.inr.inj z)
theorem g_cells : valV (penKvs q a g c f) (.inr "cells") = some (.ref q) := valV_pos rfl
theorem g_at : valV (penKvs q a g c f) (.inr "at") = some (.int a) := by
  unfold penKvs
  rw [valV_neg (k_ne (by decide +kernel)), valV_pos rfl]
theorem g_dig : valV (penKvs q a g c f) (.inr "digits") = some (.int g) := by
  unfold penKvs
  rw [valV_neg (k_ne (by decide +kernel)), valV_neg (k_ne (by decide +kernel)), valV_pos rfl]
theorem g_cnt : valV (penKvs q a g c f) (.inr "count") = some (.int c) := by
  unfold penKvs
  rw [valV_neg (k_ne (by decide +kernel)), valV_neg (k_ne (by decide +kernel)), valV_neg (k_ne (by decide +kernel)), valV_pos rfl]
theorem g_fold : valV (penKvs q a g c f) (.inr "fold") = some (.int f) := by
  unfold penKvs
  rw [valV_neg (k_ne (by decide +kernel)), valV_neg (k_ne (by decide +kernel)), valV_neg (k_ne (by decide +kernel)), valV_neg (k_ne (by decide +kernel)), valV_pos rfl]
theorem putK_hit {kvs : List (Key × V)} {k : Key} {v : V} (h : (valV kvs k).isSome = true) : putK kvs k v = kvs.map fun kv => if kv.1 = k then (kv.1, v) else kv := by
  unfold putK
  rw [valV_any, if_pos h]
theorem p_at {a' : Int} : putK (penKvs q a g c f) (.inr "at") (.int a') = penKvs q a' g c f := by
  rw [putK_hit (by rw [g_at]; rfl)]
  have e1 : ¬ (("cells" : Str) = "at") := by decide +kernel
  have e2 : ¬ (("digits" : Str) = "at") := by decide +kernel
  have e3 : ¬ (("count" : Str) = "at") := by decide +kernel
  have e4 : ¬ (("fold" : Str) = "at") := by decide +kernel
  simp [penKvs, e1, e2, e3, e4]
theorem p_dig {a' : Int} : putK (penKvs q a g c f) (.inr "digits") (.int a') = penKvs q a a' c f := by
  rw [putK_hit (by rw [g_dig]; rfl)]
  have e1 : ¬ (("cells" : Str) = "digits") := by decide +kernel
  have e2 : ¬ (("at" : Str) = "digits") := by decide +kernel
  have e3 : ¬ (("count" : Str) = "digits") := by decide +kernel
  have e4 : ¬ (("fold" : Str) = "digits") := by decide +kernel
  simp [penKvs, e1, e2, e3, e4]
theorem p_cnt {a' : Int} : putK (penKvs q a g c f) (.inr "count") (.int a') = penKvs q a g a' f := by
  rw [putK_hit (by rw [g_cnt]; rfl)]
  have e1 : ¬ (("cells" : Str) = "count") := by decide +kernel
  have e2 : ¬ (("at" : Str) = "count") := by decide +kernel
  have e3 : ¬ (("digits" : Str) = "count") := by decide +kernel
  have e4 : ¬ (("fold" : Str) = "count") := by decide +kernel
  simp [penKvs, e1, e2, e3, e4]
theorem p_fold {a' : Int} : putK (penKvs q a g c f) (.inr "fold") (.int a') = penKvs q a g c a' := by
  rw [putK_hit (by rw [g_fold]; rfl)]
  have e1 : ¬ (("cells" : Str) = "fold") := by decide +kernel
  have e2 : ¬ (("at" : Str) = "fold") := by decide +kernel
  have e3 : ¬ (("digits" : Str) = "fold") := by decide +kernel
  have e4 : ¬ (("count" : Str) = "fold") := by decide +kernel
  simp [penKvs, e1, e2, e3, e4]
/-- pen[k] = e -/
theorem s_put {k : Str} {tv : TE} {D : Ends} {kvs' : List (Key × V)} (h0 : σ[0]? = some (some (.ref p))) (hp : H p = some (.dK (penKvs q a g c f))) (hv : Pv tv σ H v) (hk : putK (penKvs q a g c f) (.inr k) v = kvs') (hn : D.nx σ (upd H p (.dK kvs'))) :
    sDPut (tVar 0) (tC (.str k)) tv D σ H := hv _ ⟨_, h0, p, _, rfl, .inl ⟨_, .inr k, hp, rfl, (by show 5 < sizeLine; rw [sizeLine_eq]; decide), by rw [hk]⟩, hn⟩
theorem upd_upd {u w : HO} : upd (upd H p u) p w = upd H p w := by
  funext b
  by_cases hb : b = p
  · subst hb; rw [upd_same, upd_same]
  · rw [upd_ne hb, upd_ne hb, upd_ne hb]
end
theorem if_t {b : Bool} {P Q : Prop} (hb : b = true) (h : P) : if b = true then P else Q := by rw [if_pos hb]; exact h
theorem if_f {b : Bool} {P Q : Prop} (hb : b = false) (h : Q) : if b = true then P else Q := by rw [hb, if_neg Bool.false_ne_true]; exact h
/-- the reading of _law_draw's body -/
abbrev dG (k : Str) : TE := tDGet (tVar 0) (tC (.str k))
abbrev dI (t : TE) : TE := tCB (fun xs H Q => (∃ i, xs = [.int i] ∧ Q (.int i) H) ∨ ∃ k, xs = [.bl k] ∧ Q (.int (if k then 1 else 0)) H) (tCons t tNil)
abbrev rAd : R2 := rI0 fun i j => .int (i + j)
abbrev rSb : R2 := rI0 fun i j => .int (i - j)
abbrev rMu : R2 := rI CMul fun i j => .int (i * j)
abbrev rMd : R2 := rI (fun _ j => 0 < j) fun i j => .int (i % j)
abbrev rDv : R2 := rI CDivW fun i j => .int (i / j)
abbrev rPw : R2 := rI CPow fun i j => .int (i ^ j.toNat)
abbrev tN (i : Int) : TE := tC (.int i)
def tTail : TS :=
  tSeq (tIfS (tB (tGt (dG "digits") (tN 0)))
    (tSeq (tAsg (tOp rMd (dI (dG "digits")) (tVar 1)) (gName 3))
    (tSeq (sDPut (tVar 0) (tC (.str "digits")) (tOp rDv (dG "digits") (tVar 1)))
    (tRet (tVar 3)))) tNext)
    (tSeq (tAsg (tOp rMd (dI (tOp rAd (tOp rAd (tOp rMu (dG "fold") (tN 48271)) (tOp rMu (dG "count") (tN 7919))) (tN 13))) (tN 2147483647)) (gName 4))
    (tSeq (tAsg (tOp rMd (dI (tOp rAd (tOp rAd (tOp rMu (tVar 4) (tVar 4)) (tOp rMu (tN 31) (tVar 4))) (dG "count"))) (tN 2147483629)) (gName 4))
    (tSeq (sDPut (tVar 0) (tC (.str "fold")) (tOp rMd (dI (tOp rAd (tOp rMu (tVar 4) (tN 16807)) (tN 7))) (tN 2147483647)))
    (tRet (tOp rMd (dI (tOp rDv (tVar 4) (tN 64))) (tVar 1))))))
def tDraw (K : PySem.W.Frag) : TS :=
  tSeq (sDPut (tVar 0) (tC (.str "count")) (tOp rAd (dG "count") (tN 1)))
  (tSeq (tIfS (tAnd (tB (tEqI (dG "digits") (tN 0))) (tB (tLt (dG "at") (tCB (fun xs H Q => ∃ x n, xs = [x] ∧ LenV K x H n ∧ Q (.int n) H) (tCons (dG "cells") tNil)))))
    (tSeq (tAsg (tOp (rIx K) (dG "cells") (dG "at")) (gName 2))
    (tSeq (sDPut (tVar 0) (tC (.str "at")) (tOp rAd (dG "at") (tN 1)))
    (tIfS (tB (tGe (tVar 2) (tOp rPw (tN 10) (tN 18))))
      (sDPut (tVar 0) (tC (.str "digits")) (tOp rSb (tVar 2) (tOp rPw (tN 10) (tN 18))))
      (sDPut (tVar 0) (tC (.str "fold")) (tOp rMd (dI (tOp rAd (tOp rMu (dG "fold") (tN 69069)) (tVar 2))) (tN 2147483587)))))) tNext) tTail)
section
variable {H : Hp} {p q : Addr} {K : PySem.W.Frag}
theorem mod_in (x : Int) {m : Int} (h : 0 < m) : 0 ≤ x % m ∧ x % m < m := ⟨Int.emod_nonneg _ (by omega), Int.emod_lt_of_pos _ h⟩
theorem pen_upd {u : HO} {cells : List Int} {a g c f : Int} (ne : p ≠ q) (hq : H q = some (.lst (cells.map V.int))) (h63 : cells.length ≤ 63) (ha : 0 ≤ a) (hg : 0 ≤ g) (hf : 0 ≤ f ∧ f < 2147483648) : PenAt (upd H p (.dK (penKvs q a g c f))) p q :=
  ⟨ne, cells, a, g, c, f, upd_same, by rw [upd_ne (Ne.symm ne)]; exact hq, ha, h63, hg, hf.1, hf.2⟩
theorem draw_ok {m : Int} (hm : 0 < m) (hb : m ≤ 1000000000) (h : PenAt H p q) {Q : VK} (k : ∀ (r : Int) (a g c f : Int), 0 ≤ r → r < m → PenAt (upd H p (.dK (penKvs q a g c f))) p q → Q (.int r) (upd H p (.dK (penKvs q a g c f)))) :
    tDraw K { nx := fun _ H' => Q .non H', rt := Q } [some (.ref p), some (.int m), none, none, none] H := by
  obtain ⟨ne, cells, a, g, c, f, hp, hq, ha, h63, hg, hf0, hf1⟩ := h
  have hqd : ∀ u, upd H p u q = some (.lst (cells.map V.int)) := fun u => by rw [upd_ne (Ne.symm ne)]; exact hq
  -- count
  refine s_put rfl hp (pv_op (pv_get rfl hp g_cnt) pv_c fun Q hq => ⟨_, _, rfl, rfl, hq⟩) p_cnt ?_
  -- what comes behind the first if, for any state of the pen
  have rest : ∀ (a g f : Int) (v2 : Option V), 0 ≤ a → 0 ≤ g → (0 ≤ f ∧ f < 2147483648) →
      tTail { nx := fun _ H' => Q .non H', rt := Q } [some (.ref p), some (.int m), v2, none, none] (upd H p (.dK (penKvs q a g (c + 1) f))) := fun a g f v2 ha hg hf => by
    have h1 : (upd H p (.dK (penKvs q a g (c + 1) f))) p = some (.dK (penKvs q a g (c + 1) f)) := upd_same
    refine pv_get rfl h1 g_dig _ ?_
    refine ⟨_, _, rfl, rfl, _, rfl, ?_⟩
    by_cases hd : g > 0
    · refine if_t (decide_eq_true hd) ?_
      refine pv_op (r := rMd) (pv_int (pv_get rfl h1 g_dig)) (pv_v rfl) (z := .int (g % m)) (fun Q hq => ⟨_, _, rfl, rfl, hm, hq⟩) _ ?_
      have hlg : m.natAbs.log2 < 9000 := by
        have h2 : m.natAbs < 2 ^ 30 := by omega
        have h3 := (Nat.log2_lt (n := m.natAbs) (k := 30) (by omega)).mpr h2
        omega
      refine s_put rfl h1 (pv_op (r := rDv) (pv_get rfl h1 g_dig) (pv_v rfl) (z := .int (g / m)) fun Q hq => ⟨_, _, rfl, rfl, ⟨hm, hlg⟩, hq⟩) p_dig ?_
      refine ⟨_, rfl, ?_⟩
      rw [upd_upd]
      exact k _ _ _ _ _ (mod_in g hm).1 (mod_in g hm).2 (pen_upd (u := .dK []) ne hq h63 ha (Int.ediv_nonneg hg (by omega)) hf)
    · refine if_f (decide_eq_false hd) ?_
      refine pv_op (r := rMd) (pv_int (pv_op (r := rAd) (pv_op (r := rAd) (pv_op (r := rMu) (pv_get rfl h1 g_fold) pv_c (z := .int (f * 48271)) fun Q hq => ⟨_, _, rfl, rfl, .inr ⟨by decide, by decide⟩, hq⟩) (pv_op (r := rMu) (pv_get rfl h1 g_cnt) pv_c (z := .int ((c + 1) * 7919)) fun Q hq => ⟨_, _, rfl, rfl, .inr ⟨by decide, by decide⟩, hq⟩) fun Q hq => ⟨_, _, rfl, rfl, hq⟩) pv_c fun Q hq => ⟨_, _, rfl, rfl, hq⟩)) pv_c (z := .int ((f * 48271 + (c + 1) * 7919 + 13) % 2147483647)) (fun Q hq => ⟨_, _, rfl, rfl, (show (0 : Int) < 2147483647 by decide), hq⟩) _ ?_
      generalize hb1 : (f * 48271 + (c + 1) * 7919 + 13) % 2147483647 = b1
      have hb1' := mod_in (f * 48271 + (c + 1) * 7919 + 13) (m := 2147483647) (by decide)
      rw [hb1] at hb1'
      refine pv_op (r := rMd) (pv_int (pv_op (r := rAd) (pv_op (r := rAd) (pv_op (r := rMu) (pv_v rfl) (pv_v rfl) (z := .int (b1 * b1)) fun Q hq => ⟨_, _, rfl, rfl, .inr ⟨by omega, by omega⟩, hq⟩) (pv_op (r := rMu) pv_c (pv_v rfl) (z := .int (31 * b1)) fun Q hq => ⟨_, _, rfl, rfl, .inl ⟨by decide, by decide⟩, hq⟩) fun Q hq => ⟨_, _, rfl, rfl, hq⟩) (pv_get rfl h1 g_cnt) fun Q hq => ⟨_, _, rfl, rfl, hq⟩)) pv_c (z := .int ((b1 * b1 + 31 * b1 + (c + 1)) % 2147483629)) (fun Q hq => ⟨_, _, rfl, rfl, (show (0 : Int) < 2147483629 by decide), hq⟩) _ ?_
      generalize hb2 : (b1 * b1 + 31 * b1 + (c + 1)) % 2147483629 = b2
      have hb2' := mod_in (b1 * b1 + 31 * b1 + (c + 1)) (m := 2147483629) (by decide)
      rw [hb2] at hb2'
      refine s_put rfl h1 (pv_op (r := rMd) (pv_int (pv_op (r := rAd) (pv_op (r := rMu) (pv_v rfl) pv_c (z := .int (b2 * 16807)) fun Q hq => ⟨_, _, rfl, rfl, .inr ⟨by decide, by decide⟩, hq⟩) pv_c fun Q hq => ⟨_, _, rfl, rfl, hq⟩)) pv_c (z := .int ((b2 * 16807 + 7) % 2147483647)) (fun Q hq => ⟨_, _, rfl, rfl, (show (0 : Int) < 2147483647 by decide), hq⟩)) p_fold ?_
      rw [upd_upd]
      have hf' := mod_in (b2 * 16807 + 7) (m := 2147483647) (by decide)
      refine pv_op (r := rMd) (pv_int (pv_op (r := rDv) (pv_v rfl) pv_c (z := .int (b2 / 64)) fun Q hq => ⟨_, _, rfl, rfl, ⟨by decide, by decide⟩, hq⟩)) (pv_v rfl) (z := .int (b2 / 64 % m)) (fun Q hq => ⟨_, _, rfl, rfl, hm, hq⟩) _ ?_
      exact k _ _ _ _ _ (mod_in _ hm).1 (mod_in _ hm).2 (pen_upd (u := .dK []) ne hq h63 ha hg ⟨hf'.1, by omega⟩)
  have h1 : (upd H p (.dK (penKvs q a g (c + 1) f))) p = some (.dK (penKvs q a g (c + 1) f)) := upd_same
  refine pv_get rfl h1 g_dig _ ?_
  refine ⟨_, _, rfl, rfl, _, rfl, ?_⟩
  have hl : Pv (tCB (fun xs H Q => ∃ x n, xs = [x] ∧ LenV K x H n ∧ Q (.int n) H) (tCons (dG "cells") tNil)) [some (.ref p), some (.int m), none, none, none] (upd H p (.dK (penKvs q a g (c + 1) f))) (.int (cells.length : Int)) := fun Q' hq' =>
    pv_get rfl h1 g_cells _ ⟨_, cells.length, rfl, .inl ⟨cells.map V.int, sq_of (hqd _), by simp⟩, hq'⟩
  have hp18 : ∀ {σ : L2.St} {H : Hp}, Pv (tOp rPw (tN 10) (tN 18)) σ H (.int (10 ^ 18)) := fun {σ H} => pv_op (r := rPw) pv_c pv_c fun Q hq => ⟨_, _, rfl, rfl, ⟨by decide, by decide, by decide⟩, hq⟩
  by_cases h0 : g = 0
  · refine if_t (decide_eq_true h0) ?_
    refine pv_get rfl h1 g_at _ (hl _ ?_)
    refine ⟨_, _, rfl, rfl, _, rfl, ?_⟩
    by_cases hat : a < (cells.length : Int)
    · refine if_t (decide_eq_true hat) ?_
      obtain ⟨cell, hcell⟩ : ∃ cell, atI (cells.map V.int) a = some (.int cell) := by
        have : a.toNat < cells.length := by omega
        refine ⟨cells[a.toNat], ?_⟩
        have e : ((a.toNat : Nat) : Int) = a := by omega
        have h := atI_nat (xs := cells.map V.int) (j := a.toNat) (v := V.int cells[a.toNat]) (by rw [List.getElem?_map, List.getElem?_eq_getElem this]; rfl)
        rw [e] at h
        exact h
      refine pv_get rfl h1 g_cells _ (pv_get rfl h1 g_at _ (.inl ⟨q, _, a, _, rfl, rfl, sq_of (hqd _), hcell, ?_⟩))
      refine s_put rfl h1 (pv_op (r := rAd) (pv_get rfl h1 g_at) pv_c fun Q hq => ⟨_, _, rfl, rfl, hq⟩) p_at ?_
      rw [upd_upd]
      have h2 : (upd H p (.dK (penKvs q (a + 1) g (c + 1) f))) p = some (.dK (penKvs q (a + 1) g (c + 1) f)) := upd_same
      refine ⟨.int cell, rfl, ?_⟩
      refine hp18 _ ?_
      refine ⟨_, _, rfl, rfl, _, rfl, ?_⟩
      by_cases hc : cell ≥ 10 ^ 18
      · refine if_t (decide_eq_true hc) ?_
        refine s_put rfl h2 (pv_op (r := rSb) (pv_v rfl) hp18 fun Q hq => ⟨_, _, rfl, rfl, hq⟩) p_dig ?_
        rw [upd_upd]
        exact rest _ _ _ _ (by omega) (by omega) ⟨hf0, hf1⟩
      · refine if_f (decide_eq_false hc) ?_
        refine s_put rfl h2 (pv_op (r := rMd) (pv_int (pv_op (r := rAd) (pv_op (r := rMu) (pv_get rfl h2 g_fold) pv_c (z := .int (f * 69069)) fun Q hq => ⟨_, _, rfl, rfl, .inr ⟨by decide, by decide⟩, hq⟩) (pv_v rfl) fun Q hq => ⟨_, _, rfl, rfl, hq⟩)) pv_c (z := .int ((f * 69069 + cell) % 2147483587)) (fun Q hq => ⟨_, _, rfl, rfl, (show (0 : Int) < 2147483587 by decide), hq⟩)) p_fold ?_
        rw [upd_upd]
        have hf' := mod_in (f * 69069 + cell) (m := 2147483587) (by decide)
        exact rest _ _ _ _ (by omega) hg ⟨hf'.1, by omega⟩
    · refine if_f (decide_eq_false hat) ?_
      exact rest _ _ _ _ ha hg ⟨hf0, hf1⟩
  · refine if_f (decide_eq_false h0) ?_
    refine if_f rfl ?_
    exact rest _ _ _ _ ha hg ⟨hf0, hf1⟩
end
def df_draw : DF := fun ss P _ => match ss with
  | [.ow .pen, .fz (.int m)] => 0 < m ∧ m ≤ 1000000000 ∧ ∀ r : Int, 0 ≤ r → r < m → P (.fz (.int r))
  | _ => False
section
variable {P : Program} {w : World} {base : Heap} {A : Am}
theorem draw_fn {x qual : Str} {st : Stmt} {f : Addr} {fd : FuncData} {N ps : List Str} {k : Nat} (hN : N.length = 5) (hps : ps.length = 2) (F : Fun A.K x qual st f fd) (Sc : FnScope N ps (defScope st))
    (body : ∀ (cdv : Value) (Ar : Around) (outer : List PySem.Env) (s : Shared) (H : Hp) (E : XK), Room k (Ar.deeper (envOfC qual (defScope st) s.heap.objs.size f cdv)) → PSs (cxOf (L2.CX P w) P w A.K A.mg base N qual (defScope st) f cdv Ar outer s H E) (defBody st) (tDraw A.K)) :
    FnOk P w A.K A.mg base (L2.CX P w) (k + 1) f fd ps (spD A 2 df_draw) := by
  refine F.okX Sc (fun vs H Q E h => h.1.trans hps.symm) (fun cdv Ar outer s H vs Q E hr h => ⟨_, body cdv Ar outer s H E hr, ?_⟩)
  obtain ⟨hl, F0, ss, P0, X0, S, ok, q, kq, kx⟩ := h
  unfold df_draw at q
  split at q
  · rename_i m
    obtain ⟨hm, hb, q⟩ := q
    obtain ⟨v0, e0, p, ep, ⟨q0, hpen⟩, hf⟩ := S.sl 0 (.ow .pen) rfl
    obtain ⟨v1, e1, r1⟩ := S.sl 1 (.fz (.int m)) rfl
    cases r1
    subst ep
    have hvs : vs = [.ref p, .int m] := by
      match vs, hl, e0, e1 with
      | [a, b], _, e0, e1 =>
        have h0 : a = .ref p := Option.some.inj (Option.some.inj e0)
        have h1 : b = .int m := Option.some.inj (Option.some.inj e1)
        rw [h0, h1]
    subst hvs
    have es : L2.start N [.ref p, .int m] = [some (.ref p), some (.int m), none, none, none] := by
      unfold L2.start
      rw [hN]
      rfl
    rw [es]
    have ownp : ∀ b, Own (up1 [V.ref p, V.int m]) (up1 [Sl.ow .pen, Sl.fz (.int m)]) H b → Ft H .pen p b := fun b ⟨i, o, a, h1, h2, h3⟩ => by
      match i, h1, h2 with
      | 0, h1, h2 => cases h1; cases h2; exact h3
      | 1, h1, h2 => cases h1
    have hpw : Own (up1 [V.ref p, V.int m]) (up1 [Sl.ow .pen, Sl.fz (.int m)]) H p := ⟨0, .pen, p, rfl, rfl, .inl rfl⟩
    have hqw : Own (up1 [V.ref p, V.int m]) (up1 [Sl.ow .pen, Sl.fz (.int m)]) H q0 := ⟨0, .pen, p, rfl, rfl, .inr hpen⟩
    have fp : F0 p = none := hf p (.inl rfl)
    have hH : ∃ kvs, H p = some (.dK kvs) := by obtain ⟨_, _, a, g, c, f, e, _⟩ := hpen; exact ⟨_, e⟩
    obtain ⟨kvs, hH⟩ := hH
    refine draw_ok hm hb hpen fun r a g c f h0 h1 hp' => kq _ F0 _ _ (q r h0 h1) ⟨Le.refl F0, fun b o h => ?_, fun t ht => ?_, fun b ps h => ?_, fun b o h hfb n no => ?_, fun b h => ?_, fun i b h1 h2 => ?_, .int _⟩
    · rw [upd_ne fun z => by subst z; rw [fp] at h; cases h]; exact S.sub _ _ h
    · obtain ⟨ps, h1, h2, h3⟩ := S.tab t ht
      have hk : ∀ {b : Addr} {u : HO}, H b = some u → u ≠ .dK kvs → upd H p (.dK (penKvs q0 a g c f)) b = some u := fun {b u} h n => by
        by_cases hb : b = p
        · subst hb; rw [hH] at h; cases h; exact (n rfl).elim
        · rw [upd_ne hb]; exact h
      refine ⟨ps, hk h1 (fun z => by cases z), h2, fun pos cv hc => ?_⟩
      obtain ⟨c, e1, e2⟩ := h3 pos cv hc
      exact ⟨c, e1, hk e2 (fun z => by cases z)⟩
    · by_cases hb : b = p
      · subst hb; rw [upd_same] at h; cases h
      · rw [upd_ne hb] at h; exact S.ftab _ _ h
    · have : b ≠ p := fun z => by subst z; exact no hpw
      rw [upd_ne this]; exact ⟨h, hfb⟩
    · by_cases hb : b = p
      · subst hb; exact (fre_no upd_same (fun _ z => by cases z) h).elim
      · exact fun o e => h o (by rw [upd_ne hb]; exact e)
    · have hbp : b = p := by
        match i, h1, h2 with
        | 0, _, h2 => cases h2; rfl
        | 1, h1, _ => cases h1
      subst hbp
      refine ⟨⟨q0, hp'⟩, fun z hz => ?_⟩
      have hz' : z = b ∨ z = q0 := by
        rcases hz with hz | hz
        · exact .inl hz
        · obtain ⟨_, _, a1, g1, c1, f1, e1, _⟩ := hz
          rw [upd_same] at e1
          have h0 := Option.some.inj e1
          injection h0 with h0
          unfold penKvs at h0
          injection h0 with h0 _
          injection h0 with _ h0
          injection h0 with h0
          exact .inr h0.symm
      rcases hz' with rfl | rfl
      · exact ⟨fp, .inl hpw⟩
      · exact ⟨hf _ (.inr hpen), .inl hqw⟩
  · exact q.elim
end
end DL
namespace DL
open PySem L2 Evl PySem.Spec PyProof.Rows

/-! ### the pen is made: return {'cells': list(script), 'at': 0, 'digits': 0, 'count': 0, 'fold': fold} -/
abbrev rLs (K : PySem.W.Frag) : List V → Hp → VK → Prop := fun xs H Q => ∃ p ys, xs = [.ref p] ∧ (SqL K H p ys ∨ SqT K H p ys) ∧ ∀ l, H l = none → Q (.ref l) (upd H l (.lst ys))
def penTrs (K : PySem.W.Frag) (j : Nat) : List (TE × TE) := [(tC (.str "cells"), tCB (rLs K) (tCons (tVar 0) tNil)), (tC (.str "at"), tC (.int 0)), (tC (.str "digits"), tC (.int 0)), (tC (.str "count"), tC (.int 0)), (tC (.str "fold"), tVar j)]
def sPen (j : Nat) : GS := fun δ B => ∃ ns f, δ[0]? = some (some (.fz (.scr ns))) ∧ δ[j]? = some (some (.fz (.int f))) ∧ ns.length ≤ 63 ∧ 0 ≤ f ∧ f < 2147483648 ∧ B.rt (.ow .pen)
theorem merge_pen {q : Addr} {f : Int} : mergeK [] (penKvs q 0 0 0 f) = penKvs q 0 0 0 f := by
  have n1 : ¬ (("cells" : Str) = "at") := by decide +kernel
  have n2 : ¬ (("cells" : Str) = "digits") := by decide +kernel
  have n3 : ¬ (("cells" : Str) = "count") := by decide +kernel
  have n4 : ¬ (("cells" : Str) = "fold") := by decide +kernel
  have n5 : ¬ (("at" : Str) = "digits") := by decide +kernel
  have n6 : ¬ (("at" : Str) = "count") := by decide +kernel
  have n7 : ¬ (("at" : Str) = "fold") := by decide +kernel
  have n8 : ¬ (("digits" : Str) = "count") := by decide +kernel
  have n9 : ¬ (("digits" : Str) = "fold") := by decide +kernel
  have n10 : ¬ (("count" : Str) = "fold") := by decide +kernel
  simp [mergeK, penKvs, putK, n1, n2, n3, n4, n5, n6, n7, n8, n9, n10]
theorem ds_pen {X : Cx} {A : Am} {E : XK} {j : Nat} {keys : List (Option Expr)} {values : List Expr} {p1 p2 : Pos} (hK : A.K = X.K) (h : PPs X p1 keys values (penTrs X.K j)) (hall : keys.all (·.isSome) = true) (hl : keys.length = values.length) (h0 : keys ≠ []) (h15 : keys.length ≤ 15) :
    PS X (.Return (some (.Dict keys values p1)) p2) (tS A E (sPen j)) :=
  ps_weak (ps_ret (pe_disp h hall hl h0 h15)) fun D σ H ⟨F, δ, B, S, ⟨ns, f, e0, ej, h63, hf0, hf1, q⟩, kn, kb, kc, kr, kx⟩ => by
    obtain ⟨v0, g0, r0⟩ := S.sl 0 _ e0
    obtain ⟨vj, gj, rj⟩ := S.sl j _ ej
    cases rj
    cases r0 with
    | @scr a _ hF =>
      intro p hp
      have fn : ∀ {b : Addr}, H b = none → F b = none := fun {b} hb => by
        cases e : F b with
        | none => rfl
        | some u => rw [S.sub _ _ e] at hb; cases hb
      have hsl : SqL X.K (upd H p (.dK [])) a (ns.map V.int) := by
        have h := ex_l S.sub hF
        rw [hK] at h
        exact ex_l (Ex.new hp) h
      refine ⟨.ref a, g0, a, ns.map V.int, rfl, .inl hsl, fun l hl => ?_⟩
      have hlp : l ≠ p := fun z => by subst z; rw [upd_same] at hl; cases hl
      have hlH : H l = none := by rw [upd_ne hlp] at hl; exact hl
      refine ⟨.int f, gj, by rw [upd_ne (Ne.symm hlp), upd_same], penKvs l 0 0 0 f, rfl, by show 5 ≤ 15; decide, ?_⟩
      rw [merge_pen]
      have hup : Ex H (upd (upd (upd H p (.dK [])) l (.lst (ns.map V.int))) p (.dK (penKvs l 0 0 0 f))) := fun b o e => by
        have b1 : b ≠ p := fun z => by subst z; rw [hp] at e; cases e
        have b2 : b ≠ l := fun z => by subst z; rw [hlH] at e; cases e
        rw [upd_ne b1, upd_ne b2, upd_ne b1]; exact e
      have hpen : PenAt (upd (upd (upd H p (.dK [])) l (.lst (ns.map V.int))) p (.dK (penKvs l 0 0 0 f))) p l := ⟨Ne.symm hlp, ns, 0, 0, 0, f, upd_same, by rw [upd_ne hlp, upd_same], Int.le_refl 0, h63, Int.le_refl 0, hf0, hf1⟩
      have n1 : New A F H F (upd (upd (upd H p (.dK [])) l (.lst (ns.map V.int))) p (.dK (penKvs l 0 0 0 f))) (.ow .pen) (.ref p) := by
        refine ⟨Ex.refl F, hup, S.sub.trans hup, fun _ _ => rfl, fun b ps z => ?_, p, rfl, ⟨l, hpen⟩, fun b hb => ?_⟩
        · by_cases hb : b = p
          · subst hb; rw [upd_same] at z; cases z
          · rw [upd_ne hb] at z
            by_cases hb2 : b = l
            · subst hb2; rw [upd_same] at z; cases z
            · rw [upd_ne hb2, upd_ne hb] at z; exact z
        · have hb' : b = p ∨ b = l := by
            rcases hb with hb | hb
            · exact .inl hb
            · obtain ⟨_, _, a1, g1, c1, f1, e1, _⟩ := hb
              rw [upd_same] at e1
              have h0 := Option.some.inj e1
              injection h0 with h0
              unfold penKvs at h0
              injection h0 with h0 _
              injection h0 with _ h0
              injection h0 with h0
              exact .inr h0.symm
          rcases hb' with rfl | rfl
          · exact ⟨fn hp, hp⟩
          · exact ⟨fn hlH, hlH⟩
      obtain ⟨S3, f3, R⟩ := n1.stt S
      exact kr (.ow .pen) δ F _ σ _ q S3 f3 R
/-- int(x) -/
def nInt : OpN := fun ds k => match ds with
  | [.int i] => k (.fz (.int i))
  | [.bl b] => k (.fz (.int (if b then 1 else 0)))
  | _ => False
theorem cd_int {A : Am} : CaD A (fun xs H Q => (∃ i, xs = [.int i] ∧ Q (.int i) H) ∨ ∃ k, xs = [.bl k] ∧ Q (.int (if k then 1 else 0)) H) nInt := fun F H ds vs k Q s a q h => by
  unfold nInt at q
  split at q
  · obtain ⟨v, rfl, b⟩ := args1 a
    cases arg_int b
    exact .inl ⟨_, rfl, h _ _ _ _ q (new_fz s (.int _))⟩
  · obtain ⟨v, rfl, b⟩ := args1 a
    cases arg_bl b
    exact .inr ⟨_, rfl, h _ _ _ _ q (new_fz s (.int _))⟩
  · exact q.elim
end DL
namespace DL
open PySem L2 Evl PySem.Spec PyProof.Rows

/-! ### data with and without the exception that is handled -/
mutual
def D.nox : D → Bool
  | .non => true
  | .bl _ => true
  | .int _ => true
  | .str _ => true
  | .ty _ => true
  | .top _ => true
  | .tup xs => D.noxs xs
  | .lst xs => D.noxs xs
  | .dct kvs => D.noxk kvs
  | .ins _ fs => D.noxf fs
  | .exc _ => false
  | .scr _ => true
def D.noxs : List D → Bool
  | [] => true
  | d :: ds => D.nox d && D.noxs ds
def D.noxk : List (D × D) → Bool
  | [] => true
  | (k, d) :: ds => D.nox k && (D.nox d && D.noxk ds)
def D.noxf : List (Str × D) → Bool
  | [] => true
  | (_, d) :: ds => D.nox d && D.noxf ds
end
def Am.at (A : Am) (a dd : Addr) : Am := { A with pin := some (a, dd) }
section
variable {A : Am} {F : Hp} {a dd : Addr}
mutual
/-- into the callee: the exception is known there -/
theorem Rep.into (h0 : A.pin = none) : ∀ (d : D) {v : V}, Rep A F d v → Rep (A.at a dd) F d v
  | .non, _, .non => .non
  | .bl b, _, .bl _ => .bl b
  | .int i, _, .int _ => .int i
  | .str s, _, .str _ => .str s
  | .ty n, _, .ty _ => .ty n
  | .top n, _, .top _ => .top (A := A.at a dd) n
  | .tup ds, _, .tup h r => .tup (A := A.at a dd) h (Reps.into h0 ds r)
  | .lst ds, _, .lst h r => .lst h (Reps.into h0 ds r)
  | .dct ds, _, .dctK h r => .dctK h (RepK.into h0 ds r)
  | .ins C gs, _, .ins h1 h2 r => .ins (A := A.at a dd) h1 h2 (RepF.into h0 gs r)
  | .exc gs, _, .exc h _ _ => by rw [h0] at h; cases h
  | .scr ns, _, .scr h => .scr (A := A.at a dd) h
theorem Reps.into (h0 : A.pin = none) : ∀ (ds : List D) {vs : List V}, Reps A F ds vs → Reps (A.at a dd) F ds vs
  | [], _, .nil => .nil
  | d :: ds, _, .cons h r => .cons (Rep.into h0 d h) (Reps.into h0 ds r)
theorem RepK.into (h0 : A.pin = none) : ∀ (ds : List (D × D)) {vs : List (Key × V)}, RepK A F ds vs → RepK (A.at a dd) F ds vs
  | [], _, .nil => .nil
  | (_, d) :: ds, _, .cons h r => .cons (Rep.into h0 d h) (RepK.into h0 ds r)
theorem RepF.into (h0 : A.pin = none) : ∀ (ds : List (Str × D)) {vs : List (Str × V)}, RepF A F ds vs → RepF (A.at a dd) F ds vs
  | [], _, .nil => .nil
  | (_, d) :: ds, _, .cons h r => .cons (Rep.into h0 d h) (RepF.into h0 ds r)
end
mutual
/-- out of the callee -/
theorem Rep.outof : ∀ (d : D) {v : V}, d.nox = true → Rep (A.at a dd) F d v → Rep A F d v
  | .non, _, _, .non => .non
  | .bl b, _, _, .bl _ => .bl b
  | .int i, _, _, .int _ => .int i
  | .str s, _, _, .str _ => .str s
  | .ty n, _, _, .ty _ => .ty n
  | .top n, _, _, .top _ => .top (A := A) n
  | .tup ds, _, o, .tup h r => .tup (A := A) h (Reps.outof ds (by rw [D.nox] at o; exact o) r)
  | .lst ds, _, o, .lst h r => .lst h (Reps.outof ds (by rw [D.nox] at o; exact o) r)
  | .dct ds, _, o, .dctK h r => .dctK h (RepK.outof ds (by rw [D.nox] at o; exact o) r)
  | .ins C gs, _, o, .ins h1 h2 r => .ins (A := A) h1 h2 (RepF.outof gs (by rw [D.nox] at o; exact o) r)
  | .exc gs, _, o, _ => by simp [D.nox] at o
  | .scr ns, _, _, .scr h => .scr (A := A) h
theorem Reps.outof : ∀ (ds : List D) {vs : List V}, D.noxs ds = true → Reps (A.at a dd) F ds vs → Reps A F ds vs
  | [], _, _, .nil => .nil
  | d :: ds, _, o, .cons h r => by
    rw [D.noxs, Bool.and_eq_true] at o
    exact .cons (Rep.outof d o.1 h) (Reps.outof ds o.2 r)
theorem RepK.outof : ∀ (ds : List (D × D)) {vs : List (Key × V)}, D.noxk ds = true → RepK (A.at a dd) F ds vs → RepK A F ds vs
  | [], _, _, .nil => .nil
  | (k, d) :: ds, _, o, h => by
    rw [D.noxk, Bool.and_eq_true, Bool.and_eq_true] at o
    cases h with
    | cons h r => exact .cons (Rep.outof d o.2.1 h) (RepK.outof ds o.2.2 r)
theorem RepF.outof : ∀ (ds : List (Str × D)) {vs : List (Str × V)}, D.noxf ds = true → RepF (A.at a dd) F ds vs → RepF A F ds vs
  | [], _, _, .nil => .nil
  | (n, d) :: ds, _, o, .cons h r => by
    rw [D.noxf, Bool.and_eq_true] at o
    exact .cons (Rep.outof d o.1 h) (RepF.outof ds o.2 r)
end
end

/-! ### a def called while an exception is handled: p, its object as it stands -/
structure FnP (P : Program) (w : World) (K : PySem.W.Frag) (mg : Str → Option Value) (base : Heap) (CX : CXT) (k : Nat) (f : Addr) (fd : FuncData) (ps : List Str) (sp : Addr × Obj → Sp) : Prop where
  len : ∀ p vs H Q E, sp p vs H Q E → vs.length = ps.length
  run : ∀ (A : Around) (outer : List PySem.Env) (s : Shared) (H : Hp) (args : Args) (us : List Value) (vs : List V) (Q : VK) (E : XK) (p : Addr × Obj), L2H.RoomH k A → L2H.PinOk outer H s p → Env0 P w K mg base A outer s H → BindsTo s fd args (ps.zip us) → Vals vs us → sp p vs H Q E →
    codeAny (model P w) A (.call (.ref f) args) (CR CX outer P w H s Q E) s
theorem fn_ofP {CX : CXT} {P : Program} {w : World} {K : PySem.W.Frag} {mg : Str → Option Value} {base : Heap} {k : Nat} {f : Addr} {x qual : Str} {st : Stmt} {fd : FuncData} {N ps : List Str} {sp : Addr × Obj → Sp} (F : Fun K x qual st f fd) (S : FnScope N ps (defScope st))
    (len : ∀ p vs H Q E, sp p vs H Q E → vs.length = ps.length)
    (hbody : ∀ (cdv : Value) (A : Around) (outer : List PySem.Env) (s : Shared) (H : Hp) (vs : List V) (Q : VK) (E : XK) (p : Addr × Obj), L2H.RoomH k (A.deeper (envOfC qual (defScope st) s.heap.objs.size f cdv)) → sp p vs H Q E →
      ∃ t, PSs (L2H.cxH CX P w K mg base N qual (defScope st) f cdv A outer s H E p) (defBody st) t ∧ t { nx := fun _ H' => Q .non H', rt := Q } (L2.start N vs) H) :
    FnP P w K mg base CX (k + 1) f fd ps sp := by
  obtain ⟨oc, od, kV, doc, pm, an, cdv, ct, osl, rfl, lk, hcd⟩ := F.ex
  refine ⟨len, fun A outer s H args us vs Q E p hr hpin e0 hb r hsp => ?_⟩
  have hl := len _ _ _ _ _ hsp
  have KX : K.In s.heap := e0.mod.kin.keeps fun b o e => (e0.bs b o e).1
  have lim : s.heap.NoLimit := e0.mod.nolimit.keeps fun b o e => (e0.bs b o e).1
  have hkind : ∀ y ∈ ps.zip us, (defScope st).names.lookup y.1 = some .local ∨ ((defScope st).names.lookup y.1 = some .cell ∧ ((cellsFrom (s.heap.objs.size + 1) (defScope st).names []).lookup y.1).isSome = true) := fun ⟨n, v⟩ hy => by
    rcases S.par n (List.of_mem_zip hy).1 with q | q
    · exact .inl q
    · exact .inr ⟨q, PySem.W.cellsFrom_some _ _ _ (.inl q)⟩
  refine codeAny_call_function hr.depth (KX _ _ lk) rfl S.co S.gen rfl (PySem.W.codeRec_of KX hcd) (hb _ _ _ _ ?_)
  refine wpAny_newFunctionEnv_cells S.kind hkind fun env he s1 x => ?_
  subst he
  refine ⟨lim.keeps x.toInCall.keep, codeAny_func ?_⟩
  obtain ⟨t, ht, hq⟩ := hbody cdv A outer s H vs Q E p (hr.deeper _) hsp
  have I := L2H.inv_startH (CX := CX) (E := E) S hpin e0 hl r x
  refine wpAny_mono (ht.run [] s1 (L2.start N vs) H _ I hq) (fun fl s' hs => ?_) fun e s' hs => hs
  have fin : ∀ {σ' : L2.St} {H' : Hp} {v : V} {u : Value}, Inv (L2H.cxH CX P w K mg base N qual (defScope st) f cdv A outer s H E p) [] σ' H' s' → RelV v u → Q v H' → CE outer P w H s Q u s' :=
    fun {σ' H' v u} J rv q => ⟨v, H', J.os, J.bare, J.base, J.hok, rv, q⟩
  cases fl with
  | ret u =>
    obtain ⟨v, σ', H', J, rv, q⟩ := hs
    exact fin J rv q
  | next =>
    obtain ⟨σ', H', J, q⟩ := hs
    exact fin (v := V.non) (u := Value.none) J rfl q
  | brk =>
    obtain ⟨_, _, _, q⟩ := hs
    exact False.elim q
  | cont =>
    obtain ⟨_, _, _, q⟩ := hs
    exact False.elim q
def tCallP (sp : Addr × Obj → Sp) (p : Addr × Obj) (E : XK) (t : TA) : TE := fun σ H Q => t σ H fun vs H1 => sp p vs H1 Q E
section
variable {X : Cx} {CX : CXT} {k : Nat} {f : Addr} {fd : FuncData} {ps : List Str} {sp : Addr × Obj → Sp} {E : XK} {x : Str} {q pos : Pos} {e : Expr} {es : List Expr} {t : TA} {p : Addr × Obj}
theorem pe_callP (F : FnP X.prog X.w X.K X.mg X.base CX k f fd ps sp) (hr : L2H.RoomH k X.A) (hp : p ∈ X.pn) (hg : Gl X x) (hm : X.mg x = some (.ref f)) (hk : PySem.W.keepIn X.K (.ref f) = true) (hb : Binds X.K fd ps []) (hx : Passes CX X E)
    (ha : PA X (e :: es) t) (hdb : (x == ("__debug__" : Str)) = false := by decide) (he : starEach (e :: es) X.env = (false, eval e X.env) :: starEach es X.env := by rfl) (hpl : (backTo pos (starEach es X.env)).any (·.1) = false := by rfl) :
    PE X (.Call (.Name x q) (e :: es) [] pos) (tCallP sp p E t) := by
  refine ⟨fun pins s σ H Q I h => ?_⟩
  refine wpAny_Call_Name_kw (ld_glob I hg hm ?_ hdb)
  refine PySem.W.callWith_K (h₀ := X.base) I.ok.mod.kin hk (thn (ha.run pos pins s σ H _ I h) fun us s1 ⟨vs, H1, I1, r, q⟩ => ⟨I1.kIn, ?_⟩) he hpl
  have hl : us.length = ps.length := by rw [← r.length]; exact F.len _ _ _ _ _ q
  have b := hb s1 us I1.kIn (by rw [List.append_nil]; exact hl)
  rw [List.append_nil] at b
  have P1 := I1.pin p (List.mem_append_left _ hp)
  have hpin : L2H.PinOk X.stack H1 s1 p := ⟨P1.1, P1.2.1, fun hm => (List.mem_cons.mp (I1.stkSub p.1 hm)).elim P1.2.2.1 P1.2.2.2.1, P1.2.2.2.2⟩
  refine wpAny_call (codeAny_mono (F.run X.A X.stack s1 H1 ⟨us, []⟩ us vs Q E p hr hpin I1.env0 b r q) fun r s' hq => ?_)
  cases r with
  | error e => exact hx pins σ H1 s1 e s' I1 hq
  | ok fl =>
    cases fl with
    | ret u => exact I1.after hq
    | next => exact False.elim hq
    | brk => exact False.elim hq
    | cont => exact False.elim hq
/-! ### isinstance(e, C), e.f, by the pin -/
structure PinC (K : PySem.W.Frag) (p : Addr × Obj) (D dd : Addr) : Prop where
  cls : p.2.cls = .ref D
  dict : p.2.dict = some dd
  fld : ∃ vs, p.2.data = .fields vs
  cl : (PySem.W.clsIn K D).isSome = true
  xf : XfC K D
  ha : PySem.W.findIn K (.ref D) "__class__" = some (some (.builtin "object.__class__"))
  hn : PySem.W.specialIn K (.builtin "object.__class__") "__get__" = some (some (.builtin "getset_descriptor.__get__"))
  ht : PySem.W.takesIn K (.builtin "object.__class__") = some true
  hm : PySem.W.mroIn K D (.type "object") = some true
def rIsP (K : PySem.W.Frag) (a D dd : Addr) : List V → Hp → VK → Prop := fun xs H Q => ∃ (c : V) (cv : Value) (b : Bool) (fs : List (Str × V)), xs = [.ref a, c] ∧ ClsV c cv ∧ H dd = some (.xd fs) ∧ PySem.W.kitOne K (.ref D) cv = some b ∧ Q (.bl b) H
theorem pin_at {pins : List (Addr × Obj)} {s : Shared} {σ : L2.St} {H : Hp} {D dd : Addr} {fs : List (Str × V)} (C : PinC X.K p D dd) (hp : p ∈ X.pn) (I : Inv X pins σ H s) (hd : H dd = some (.xd fs)) : ∃ (od : Obj) (mA : Str → Option Value), PySem.W.InstAt s.heap p.1 p.2 D (some od) ∧ (∀ n, PySem.W.lookIn n od = some (mA n)) ∧ ∀ f, RelO (fs.lookup f) (mA f) := by
  obtain ⟨ha, _⟩ := I.pin p (List.mem_append_left _ hp)
  have hx : ObjOk X.prog X.w H s.heap dd (.xd fs) := I.hok dd _ hd
  obtain ⟨mA, hns, hr⟩ := hx
  obtain ⟨od, ho, hl⟩ := lookIn_ns hns
  obtain ⟨vs, hv⟩ := C.fld
  exact ⟨od, mA, ⟨ha, C.cls, by unfold PySem.W.notCls; rw [hv] <;> rfl, by rw [C.dict]; exact ho⟩, hl, hr⟩
theorem call_isP {D dd : Addr} (C : PinC X.K p D dd) (hp : p ∈ X.pn) : CallR X (.builtin "isinstance") (rIsP X.K p.1 D dd) := by
  intro pins s σ H xs us Q I r h
  obtain ⟨c, cv, b, fs, rfl, hcv, hd, e, q⟩ := h
  obtain ⟨u1, u2, rfl, r1, r2⟩ := vals2 r
  cases (show u1 = Value.ref p.1 from r1)
  have ec := hcv.eq r2
  subst ec
  obtain ⟨od, mA, J, _, _⟩ := pin_at C hp I hd
  exact PySem.W.kia_one (PySem.W.kitx_exc C.cl C.xf.ga C.xf.gg C.xf.exC C.ha C.hn C.ht C.hm) I.kIn J e (fun z => nomatch z) fun tk => ⟨.bl b, H, I.kept (t' := tk) fun _ _ z => z, rfl, q⟩
/-- e.f -/
def tXfP (a dd : Addr) (f : Str) (te : TE) : TE := fun σ H Q => te σ H fun x H1 => x = .ref a ∧ ∃ (fs : List (Str × V)) (v : V), H1 dd = some (.xd fs) ∧ fs.lookup f = some v ∧ Q v H1
theorem pe_xfP {D dd : Addr} {n : Str} {te : TE} (C : PinC X.K p D dd) (hp : p ∈ X.pn) (hno : PySem.W.findIn X.K (.ref D) n = some none) (he : PE X e te) (hb : attributeBase e n X.env (eval e X.env) = eval e X.env := by rfl) :
    PE X (.Attribute e n pos) (tXfP p.1 dd n te) := by
  refine ⟨fun pins s σ H Q I h => ?_⟩
  refine attr_of hb (thn (he.run pins s σ H _ I h) fun u s1 hh => ?_)
  obtain ⟨x, H1, I1, rx, ex, fs, v, hd, l, q⟩ := hh
  subst ex
  obtain rfl : u = Value.ref p.1 := rx
  obtain ⟨od, mA, J, hl, hr⟩ := pin_at C hp I1 hd
  obtain ⟨u, hu, ru⟩ := RelO.some_of (v := v) (o := mA n) (by rw [← l]; exact hr n)
  exact HandSPX.exc_get I1.kIn J C.xf.ga C.xf.gg C.xf.exC (PySem.W.findObj_own C.xf.hdC hno rfl (by rw [hl, hu])) (handed_of ru) ⟨v, H1, I1.tok _, ru, q⟩
end
/-! ### .. as data -/
/-- isinstance(e, C): bs tells it for each class that the text names -/
def nIsP (bs : Str → Option Bool) (bt : String → Option Bool) : OpN := fun ds k => match ds with
  | [.exc _, .top C] => match bs C with | some b => k (.fz (.bl b)) | none => False
  | [.exc _, .ty n] => match bt n with | some b => k (.fz (.bl b)) | none => False
  | _ => False
def eXf (f : Str) (g : GE) : GE := fun δ P X => g δ (fun r δ' => vw r fun d => match d with
  | .exc fs => (match fs.lookup f with | some d' => P (.fz d') δ' | none => False)
  | _ => False) X
section
variable {X : Cx} {A : Am} {a dd D : Addr} {p : Addr × Obj} {E : XK} {e : Expr} {g : GE} {f : Str} {pos : Pos}
theorem cd_isP {K : PySem.W.Frag} (hK : K = A.K) (hpin : A.pin = some (a, dd)) {bs : Str → Option Bool} {bt : String → Option Bool} (h1 : ∀ C b, bs C = some b → PySem.W.kitOne A.K (.ref D) (.ref (A.ad C)) = some b) (h2 : ∀ n b, bt n = some b → PySem.W.kitOne A.K (.ref D) (.type n) = some b) :
    CaD A (rIsP K a D dd) (nIsP bs bt) := fun F H ds vs k Q s q0 q h => by
  subst hK
  unfold nIsP at q
  split at q
  · rename_i gs C
    split at q
    · rename_i b hb
      obtain ⟨v, w, rfl, b1, b2⟩ := args2 q0
      cases b1 with
      | rep b1 => cases b1 with
        | exc e0 e1 r =>
          rw [hpin] at e0; cases e0
          cases b2 with
          | rep b2 => cases b2; exact ⟨_, _, b, _, rfl, .own _, s _ _ e1, h1 C b hb, h _ _ _ _ q (new_fz s (.bl _))⟩
    · exact q.elim
  · rename_i gs n
    split at q
    · rename_i b hb
      obtain ⟨v, w, rfl, b1, b2⟩ := args2 q0
      cases b1 with
      | rep b1 => cases b1 with
        | exc e0 e1 r =>
          rw [hpin] at e0; cases e0
          cases b2 with
          | rep b2 => cases b2; exact ⟨_, _, b, _, rfl, .ty _, s _ _ e1, h2 n b hb, h _ _ _ _ q (new_fz s (.bl _))⟩
    · exact q.elim
  · exact q.elim
theorem de_xf (hpin : A.pin = some (p.1, dd)) (C : PinC X.K p D dd) (hp : p ∈ X.pn) (hno : PySem.W.findIn X.K (.ref D) f = some none) (he : PE X e (tE A E g)) (hb : attributeBase e f X.env (eval e X.env) = eval e X.env := by rfl) : PE X (.Attribute e f pos) (tE A E (eXf f g)) :=
  pe_weak (pe_xfP C hp hno he hb) fun σ H Q ⟨F, δ, P, Z, S, q, k, kx⟩ => ⟨F, δ, _, Z, S, q, fun r δ1 F1 H1 v q1 S1 f1 R => by
    obtain ⟨F2, dv, _, S2, f2, hr, q2⟩ := frz_tmp S1 f1 R rfl q1
    cases hr with
    | @exc a' dd' fs gs e0 e1 r =>
      rw [hpin] at e0; cases e0
      cases hl : gs.lookup f with
      | none => simp only [hl] at q2
      | some d' =>
        simp only [hl] at q2
        obtain ⟨w, hw, hr'⟩ := r.look hl
        exact ⟨rfl, fs, w, S2.sub _ _ e1, hw, k _ _ _ _ _ q2 S2 f2 hr'⟩
    | _ => exact (q2 : False).elim, kx⟩
end
end DL
namespace DL
open PySem L2 Evl PySem.Spec PyProof.Rows

/-! ### defs called while an exception is handled, by data -/
section
variable {P : Program} {w : World} {K : PySem.W.Frag} {mg : Str → Option Value} {base : Heap} {A : Am}
/-- a body's reading runs as its data reading says -/
theorem run_df {N ps : List Str} {g : GS} {df : DF} {vs : List V} {H : Hp} {Q : VK} {E : XK} (hdf : ∀ ss P X, ss.length = ps.length → ss.all okArg = true → df ss P X → dfOf (N.length - ps.length) g ss P X) (h : spD A ps.length df vs H Q E) :
    tS A E g { nx := fun _ H' => Q .non H', rt := Q } (L2.start N vs) H := by
  obtain ⟨hl, F0, ss, P0, X0, S, ok, q, kq, kx⟩ := h
  have hss : ss.length = ps.length := by
    have := S.len
    simp [up1] at this
    omega
  obtain ⟨S1, own1, sl1, v1⟩ := start_st (N := N) (m := N.length - ps.length) (by rw [hl]) S
  have fin : ∀ (r : Sl) (δ' : Env) (F' H' : Hp) (σ' : L2.St) (v : V), P0 r → Stt A F' H' σ' δ' → Fr (L2.start N vs) (up1 ss ++ List.replicate (N.length - ps.length) none) F0 H σ' δ' F' H' → RvS A (L2.start N vs) (up1 ss ++ List.replicate (N.length - ps.length) none) H F' H' σ' δ' r v → Q v H' := fun r δ' F' H' σ' v hp S' f R => by
    refine kq r F' H' v hp ⟨f.up, S'.sub, S'.tab, S'.ftab, fun a o h hf n no => f.keep a o h hf n fun z => no ((own1 a).mp z), f.there, fun i a h1 h2 => ?_, ?_⟩
    · obtain ⟨z1, z2⟩ := f.pen i ((sl1 i _).mpr h1)
      have z3 : σ'[i]? = some (some (.ref a)) := z2.trans (v1 i _ h2)
      obtain ⟨w, e, a', e1, hp, hb⟩ := S'.sl i _ z1
      rw [z3] at e; cases e; cases e1
      exact ⟨hp, fun b h => ⟨hb b h, (f.own b ⟨i, .pen, a, z1, z3, h⟩).imp (own1 b).mp id⟩⟩
    · cases r with
      | fz d => exact R
      | ow o =>
        obtain ⟨a, e, h1, h2⟩ := R
        refine ⟨a, e, h1, fun b hb => ?_⟩
        obtain ⟨q1, q2, q3⟩ := h2 b hb
        refine ⟨q1, fun i p g1 g2 g3 => ?_, q3.imp (own1 b).mp id⟩
        obtain ⟨z1, z2⟩ := f.pen i ((sl1 i _).mpr g1)
        exact q2 ⟨i, .pen, p, z1, z2.trans (v1 i _ g2), g3⟩
  exact ⟨F0, _, _, S1, hdf ss P0 X0 hss ok q, fun δ' F' H' σ' z S' f => fin (.fz .non) δ' F' H' σ' .non z S' f .non, fun _ _ _ _ z => z.elim, fun _ _ _ _ z => z.elim, fin, fun x F' H' cls d z er => kx x F' H' cls d z ⟨er.up, er.sub, er.tab, er.ftab, fun a o h hf n no => er.keep a o h hf n fun z => no ((own1 a).mp z), er.there, er.cl, er.fs, er.new⟩⟩
/-- what isinstance and the fields of the exception tell -/
structure PinD (A : Am) (p : Addr × Obj) (D dd : Addr) (flds : List Str) (bs : Str → Option Bool) (bt : String → Option Bool) : Prop where
  pc : PinC A.K p D dd
  h1 : ∀ C b, bs C = some b → PySem.W.kitOne A.K (.ref D) (.ref (A.ad C)) = some b
  h2 : ∀ n b, bt n = some b → PySem.W.kitOne A.K (.ref D) (.type n) = some b
  hf : ∀ f ∈ flds, PySem.W.findIn A.K (.ref D) f = some none
def spP (A : Am) (flds : List Str) (n : Nat) (dfb : (Str → Option Bool) → (String → Option Bool) → DF) : Addr × Obj → Sp := fun p vs H Q E => ∃ D dd bs bt, PinD A p D dd flds bs bt ∧ spD (A.at p.1 dd) n (dfb bs bt) vs H Q E
theorem fnDP {x qual : Str} {st : Stmt} {f : Addr} {fd : FuncData} {N ps : List Str} {k : Nat} {flds : List Str} {g : (Str → Option Bool) → (String → Option Bool) → GS} (F : Fun A.K x qual st f fd) (Sc : FnScope N ps (defScope st))
    (body : ∀ (cdv : Value) (Ar : Around) (outer : List PySem.Env) (s : Shared) (H : Hp) (E : XK) (p : Addr × Obj) (D dd : Addr) (bs : Str → Option Bool) (bt : String → Option Bool), L2H.RoomH k (Ar.deeper (envOfC qual (defScope st) s.heap.objs.size f cdv)) → PinD A p D dd flds bs bt →
      PSs (L2H.cxH (L2.CX P w) P w A.K A.mg base N qual (defScope st) f cdv Ar outer s H E p) (defBody st) (tS (A.at p.1 dd) E (g bs bt))) :
    FnP P w A.K A.mg base (L2.CX P w) (k + 1) f fd ps (spP A flds ps.length fun bs bt => dfOf (N.length - ps.length) (g bs bt)) := by
  refine fn_ofP F Sc (fun p vs H Q E ⟨_, _, _, _, _, h⟩ => h.1) (fun cdv Ar outer s H vs Q E p hr ⟨D, dd, bs, bt, hp, h⟩ => ⟨_, body cdv Ar outer s H E p D dd bs bt hr hp, run_df (fun _ _ _ _ _ h => h) h⟩)
end
section
variable {X : Cx} {A : Am} {E : XK} {k n : Nat} {f : Addr} {fd : FuncData} {ps : List Str} {x : Str} {q pos : Pos} {e : Expr} {es : List Expr} {gs : GA} {p : Addr × Obj} {D dd : Addr} {flds : List Str} {bs : Str → Option Bool} {bt : String → Option Bool} {dfb : (Str → Option Bool) → (String → Option Bool) → DF}
theorem de_callP (F : FnP X.prog X.w X.K X.mg X.base (L2.CX X.prog X.w) k f fd ps (spP A flds n dfb)) (hr : L2H.RoomH k X.A) (hp : p ∈ X.pn) (hD : PinD A p D dd flds bs bt) (hg : Gl X x) (hm : X.mg x = some (.ref f)) (hk : PySem.W.keepIn X.K (.ref f) = true) (hb : Binds X.K fd ps []) (hx : Passes (L2.CX X.prog X.w) X E)
    (ha : PA X (e :: es) (tAr (A.at p.1 dd) E gs)) (hdb : (x == ("__debug__" : Str)) = false := by decide) (he : starEach (e :: es) X.env = (false, eval e X.env) :: starEach es X.env := by rfl) (hpl : (backTo pos (starEach es X.env)).any (·.1) = false := by rfl) :
    PE X (.Call (.Name x q) (e :: es) [] pos) (tE (A.at p.1 dd) E (eCallN n (dfb bs bt) gs)) :=
  pe_weak (pe_callP F hr hp hg hm hk hb hx ha hdb he hpl) fun σ H Q h => by
    have := call_weak (A := A.at p.1 dd) (E := E) (gs := gs) (df := dfb bs bt) σ H Q rfl h
    obtain ⟨F0, δ, P0, X0, S, q, kk, kx⟩ := this
    exact ⟨F0, δ, P0, X0, S, q, fun hs δ' F' H' vs z S' f a => ⟨D, dd, bs, bt, hD, by
      have : spD (A.at p.1 dd) n (dfb bs bt) (vs ++ []) H' Q E := kk hs δ' F' H' vs z S' f a
      rwa [List.append_nil] at this⟩, kx⟩
end
/-- statements that are not reached -/
def sNever : GS := fun _ _ => False
theorem ds_never {X : Cx} {A : Am} {E : XK} {sts : List Stmt} : PSs X sts (tS A E sNever) := pss_weak pss_never fun D σ H ⟨_, _, _, _, q, _⟩ => q.elim
theorem h65 {k : Nat} {A : Around} (r : L2H.RoomH k A) : A.units + 65 < cLine := by have := r.un; omega
theorem h64 {k : Nat} {A : Around} (r : L2H.RoomH k A) : A.units + 64 < cLine := by have := r.un; omega
end DL
namespace DL
open PySem L2 Evl PySem.Spec PyProof.Rows LamX

/-! ### _law_fault: found = None; try: call() except RowError as e: ..; return found -/
theorem takes_len {X : Cx} {W : WX} (t : Takes X W) : Takes X (fun cls d σ H => σ.length = X.N.length → W cls d σ H) := fun u s' ⟨a, B, sI, pins, σ, H, cls, d, e, I, nb, up, sky, na, os, ag, w⟩ =>
  t u s' ⟨a, B, sI, pins, σ, H, cls, d, e, I, nb, up, sky, na, os, ag, w I.len⟩
/-- what the handler wants of an exception; Q: of the result -/
def Hdl (A : Am) (CS : Addr) (flds : List Str) (gs : (Str → Option Bool) → (String → Option Bool) → GS) (Q : VK) : XK := fun cls d H' => PySem.W.exmOne A.K cls (.ref CS) = some true ∧ ∀ (a : Addr) (x y : Option V), H' a = none →
  ∃ D dd bs bt, cls = .ref D ∧ d = some dd ∧ (∀ oe : Obj, Zc cls d oe → (∃ vs, oe.data = .fields vs) → PinD A (a, oe) D dd flds bs bt) ∧
    tS (A.at a dd) EF (gs bs bt) { nx := fun σ' H'' => ∃ z v w, σ' = [z, some v, w] ∧ Q v H'', rt := fun _ _ => False } [x, y, some (.ref a)] H'
def TTf (A : Am) (CS : Addr) (flds : List Str) (gs : (Str → Option Bool) → (String → Option Bool) → GS) : (XK → Hp → VK → Prop) → Hp → VK → Prop := fun tl H Q => tl (Hdl A CS flds gs Q) H fun _ H' => ∃ v : V, (some (some V.non) : Option (Option V)) = some (some v) ∧ Q v H'
theorem fault_gives {X : Cx} {A : Am} (hK : A.K = X.K) {q : Str} {sg : Scope} {g CS : Addr} {cdg : Value} {flds : List Str} {gs : (Str → Option Bool) → (String → Option Bool) → GS} {b₀ : Stmt} {suite : List Stmt} {j : Nat} {p0 p00 p000 p1 p2 p3 p4 p5 p6 p7 p8 : Pos}
    (h0 : sg.names.lookup ("call" : Str) = some .local) (h1 : sg.names.lookup ("found" : Str) = some .local) (h2 : sg.names.lookup ("e" : Str) = some .local) (hge : sg.names.lookup ("RowError" : Str) = some .globalImplicit) (hme : X.mg "RowError" = some (.ref CS))
    (hs : ∀ (s : Shared) (H : Hp) (a : Addr) (oe : Obj) (pn : List (Addr × Obj)) (D dd : Addr) (bs : Str → Option Bool) (bt : String → Option Bool), PinD A (a, oe) D dd flds bs bt →
      PSs ((cxOf C8.CX0 X.prog X.w X.K X.mg X.base ["call", "found", "e"] "_law_fault" sg g cdg X.A X.stack s H C8.E0).nox.suite a ((a, oe) :: pn)) (b₀ :: suite) (tS (A.at a dd) EF (gs bs bt))) :
    GivesTo X ["call", "found", "e"] "_law_fault" sg g cdg [.Assign [.Name "found" p0] (.Constant .none j p00) p000, .Try [.Expr (.Call (.Name "call" p1) [] [] p2) p3] [.ExceptHandler (some (.Name "RowError" p4)) (some "e") (b₀ :: suite) p5] [] [] p6, .Return (some (.Name "found" p7)) p8] "call" q (TTf A CS flds gs) := by
  intro f c' s H Q tl act hc h
  have hN : (["call", "found", "e"] : List Str).Nodup := by decide +kernel
  have hgl : Gl (cxOf C8.CX0 X.prog X.w X.K X.mg X.base ["call", "found", "e"] "_law_fault" sg g cdg X.A X.stack s H C8.E0).nox "RowError" := hge
  refine ⟨_, pss_cons (ps_set (i := 1) (x := "found") hN rfl (.inl h1) pe_non rfl (.inr h1)) (pss_cons
    (ps_try_as (X := (cxOf C8.CX0 X.prog X.w X.K X.mg X.base ["call", "found", "e"] "_law_fault" sg g cdg X.A X.stack s H C8.E0).nox) (c := .ref CS) (i := 2) (n := "e")
      (tb := fun W D σ H => ∃ Ech : XK, (∀ cls d σ' H', Ech cls d H' → σ'.length = 3 → W cls d σ' H') ∧ σ[0]? = some (some (.ref f)) ∧ H c' = some (CodeO c' q) ∧ tl Ech H fun _ H' => D.nx σ H')
      (ts := fun a cls d D σ H => ∃ Dc dd bs bt, cls = .ref Dc ∧ d = some dd ∧ (∀ oe : Obj, Zc cls d oe → (∃ vs, oe.data = .fields vs) → PinD A (a, oe) Dc dd flds bs bt) ∧ tS (A.at a dd) EF (gs bs bt) D σ H)
      rfl rfl hN rfl h2 ⟨hgl, by decide,   .inl hme⟩ L2.takes0 (fun W pn xe tk _ => ?_) (fun a oe cls d pn hz hf => ?_))
    (pss_one (ps_ret (pe_var (i := 1) (x := "found") rfl (.inl h1))))), ?_⟩
  · refine ⟨fun pins s' σ H' D I h' => ?_⟩
    obtain ⟨Ech, hW, e1, e2, e3⟩ := h'
    have hp := act (fun cls d σ H => σ.length = 3 → W cls d σ H) pn xe Ech p1 p2 (takes_len tk) hW
    have hq := pss_one (ps_expr (pos := p3) hp)
    exact hq.run pins s' σ H' D I ⟨e1, e2, e3⟩
  · refine ⟨fun pins s' σ H' D I h' => ?_⟩
    obtain ⟨Dc, dd, bs, bt, e1, e2, hP, h'⟩ := h'
    exact (hs s H a oe pn Dc dd bs bt (hP oe hz hf)).run pins s' σ H' D I h'
  · refine ⟨Hdl A CS flds gs Q, fun cls d σ' H' ⟨hx, hh⟩ hl => ⟨true, hK ▸ hx, fun _ a ha => ?_, fun z => by cases z⟩, rfl, hc, h⟩
    match σ', hl with
    | [x, y, z], _ =>
      obtain ⟨D, dd, bs, bt, e1, e2, hP, ht⟩ := hh a x y ha
      refine ⟨D, dd, bs, bt, e1, e2, hP, ?_⟩
      obtain ⟨F, δ, B, S, gq, kn, kb, kc, kr, kx⟩ := ht
      refine ⟨F, δ, B, S, gq, fun δ' F' H'' σ'' hz S' f' => ?_, fun δ' F' H'' σ'' hz S' f' => (kb δ' F' H'' σ'' hz S' f').elim, fun δ' F' H'' σ'' hz S' f' => (kc δ' F' H'' σ'' hz S' f').elim, fun r δ' F' H'' σ'' v hz S' f' R => (kr r δ' F' H'' σ'' v hz S' f' R).elim, kx⟩
      obtain ⟨z', v, w', rfl, hq⟩ := kn δ' F' H'' σ'' hz S' f'
      exact ⟨v, rfl, hq⟩
end DL
namespace DL
open PySem L2 Evl PySem.Spec PyProof.Rows LamX

/-! ### _law_fault(lambda: ..), by data -/
/-- names frozen -/
def frzE : List Nat → Env → (Env → Prop) → Prop
  | [], δ, k => k δ
  | i :: r, δ, k => eVar i δ (fun _ δ1 => frzE r δ1 k) noX
/-- what a lambda may see: frozen data -/
def hideD (δ : Env) : Env := δ.map fun s => match s with
  | some (.fz d) => some (.fz d)
  | _ => none
def eFault (vs : List Nat) (kd : DX → Option D) (g : GE) : GE := fun δ P _ => frzE vs δ fun δ1 => g (hideD δ1) (fun _ _ => P (.fz .non) δ1) fun x => ∃ d, kd x = some d ∧ P (.fz d) δ1
section
variable {A : Am} {F F' F'' H H' H'' : Hp} {σ : L2.St} {δ δ' : Env}
theorem frz_env : ∀ {vs : List Nat} {k : Env → Prop} {F : Hp} {δ : Env}, Stt A F H σ δ → frzE vs δ k → ∃ F' δ', k δ' ∧ Stt A F' H σ δ' ∧ Fr σ δ F H σ δ' F' H
  | [], k, F, δ, S, h => ⟨F, δ, h, S, Fr.refl⟩
  | i :: r, k, F, δ, S, h => by
    unfold frzE eVar at h
    split at h
    · rename_i d hd
      exact frz_env S h
    · rename_i o ho
      obtain ⟨F1, dd, v, e, S1, f1, hr, q⟩ := frz_slot (k := fun _ δ1 => frzE r δ1 k) S ho h
      obtain ⟨F2, δ2, q2, S2, f2⟩ := frz_env S1 q
      exact ⟨F2, δ2, q2, S2, f1.trans f2⟩
    · exact h.elim
theorem hide_get {i : Nat} {s : Sl} (h : (hideD δ)[i]? = some (some s)) : ∃ d, s = .fz d ∧ δ[i]? = some (some (.fz d)) := by
  unfold hideD at h
  rw [List.getElem?_map] at h
  cases e : δ[i]? with
  | none => rw [e] at h; cases h
  | some t =>
    rw [e] at h
    cases t with
    | none => cases h
    | some t =>
      cases t with
      | fz d => cases h; exact ⟨d, rfl, rfl⟩
      | ow o => cases h
theorem hide_own {b : Addr} : ¬ Own σ (hideD δ) H b := fun ⟨i, o, a, h1, _, _⟩ => by
  obtain ⟨d, e, _⟩ := hide_get h1
  cases e
/-- the same, behind a change of the tables -/
theorem Stt.hide (S : Stt A F H σ δ) (e : ExtN H H') (t : Tabs A.T H') : Stt A F H' σ (hideD δ) where
  sub := fun a o h => e a o (S.sub a o h) (S.ftb h)
  tab := t
  ftab := fun a ps h => by
    cases hf : F a with
    | none => rfl
    | some o =>
      have := e a o (S.sub a o hf) (S.ftb hf)
      rw [h] at this
      cases this
      exact (S.ftb hf ps rfl).elim
  len := by unfold hideD; rw [List.length_map]; exact S.len
  sl := fun i s h => by
    obtain ⟨d, e1, h'⟩ := hide_get h
    subst e1
    exact S.sl i _ h'
  sep := fun i j o o' a a' b h1 => by
    obtain ⟨d, e1, _⟩ := hide_get h1
    cases e1
/-- what was hidden stands as it stood -/
theorem Stt.show_ (S : Stt A F H σ δ) (up : Le F F') (sub : Ex F' H') (tab : Tabs A.T H') (ftab : ∀ a ps, H' a = some (.tbl ps) → F' a = none) (keep : ∀ a o, H a = some o → F a = none → (∀ ps, o ≠ .tbl ps) → H' a = some o ∧ F' a = none) (there : ∀ a, Fre H' a → Fre H a) :
    Stt A F' H' σ δ ∧ Fr σ δ F H σ δ F' H' := by
  have slot : ∀ (j : Nat) (o : Ow) (c : Addr), δ[j]? = some (some (.ow o)) → σ[j]? = some (some (.ref c)) → OwAt A F' H' o c ∧ (∀ b, Ft H' o c b ↔ Ft H o c b) ∧ ∀ b, Ft H o c b → F' b = none := fun j o c h1 h2 => by
    obtain ⟨w, e1, c', e2, ho, hf⟩ := S.sl j _ h1
    rw [h2] at e1; cases e1; cases e2
    have kk : ∀ b, Ft H o c b → H' b = H b ∧ F' b = none := fun b hb => by
      obtain ⟨u, hu⟩ := some_of_ne (ft_h ho hb)
      have nt : ∀ ps, u ≠ .tbl ps := fun ps z => by
        subst z
        cases o with
        | lst ds => obtain ⟨_, q, _⟩ := ho; cases hb; rw [q] at hu; cases hu
        | dct ds => obtain ⟨_, q, _⟩ := ho; cases hb; rw [q] at hu; cases hu
        | pen =>
          rcases hb with rfl | hb
          · obtain ⟨_, _, _, _, _, _, _, q, _⟩ := ho; rw [q] at hu; cases hu
          · obtain ⟨_, _, _, _, _, _, _, q, _⟩ := hb; rw [q] at hu; cases hu
      obtain ⟨q1, q2⟩ := keep b u hu (hf b hb) nt
      exact ⟨q1.trans hu.symm, q2⟩
    obtain ⟨q1, q2⟩ := ho.keep (H' := H') up fun b hb => (kk b hb).1
    exact ⟨q1, q2, fun b hb => (kk b hb).2⟩
  have own' : ∀ b, Own σ δ H' b → Own σ δ H b := fun b ⟨j, o, c, h1, h2, h3⟩ => ⟨j, o, c, h1, h2, ((slot j o c h1 h2).2.1 b).mp h3⟩
  refine ⟨⟨sub, tab, ftab, S.len, fun j s h => ?_, fun i j o o' a a' b h1 h2 h3 h4 h5 h6 => S.sep i j o o' a a' b h1 h2 h3 h4 (((slot i o a h1 h2).2.1 b).mp h5) (((slot j o' a' h3 h4).2.1 b).mp h6)⟩, up, fun a o h hf n _ => keep a o h hf n, there, fun b h => .inl (own' b h), fun _ h => ⟨h, rfl⟩⟩
  obtain ⟨w, e, q⟩ := S.sl j s h
  refine ⟨w, e, ?_⟩
  cases s with
  | fz d => exact Rep.mono up q
  | ow o =>
    obtain ⟨c, e1, _, _⟩ := q
    subst e1
    obtain ⟨q1, q2, q3⟩ := slot j o c h e
    exact ⟨c, rfl, q1, fun b hb => q3 b ((q2 b).mp hb)⟩
/-- what the handler tells of an error: kd; H: the heap at the call, ahead of the lambda -/
def HdlOk (A : Am) (CS : Addr) (flds : List Str) (gs : (Str → Option Bool) → (String → Option Bool) → GS) (kd : DX → Option D) : Prop := ∀ (y : DX) (d : D) (F H : Hp) (dd : Option Addr) (Q : VK), kd y = some d → Ex F H → Tabs A.T H → (∀ a ps, H a = some (.tbl ps) → F a = none) → ((y.fs = [] ∧ dd = none) ∨ ∃ e vs, dd = some e ∧ H e = some (.xd vs) ∧ RepF A F y.fs vs) →
  (∀ F' H' v, Le F F' → Ex F' H' → Tabs A.T H' → (∀ a ps, H' a = some (.tbl ps) → F' a = none) → (∀ a o, H a = some o → F a = none → (∀ ps, o ≠ .tbl ps) → (H' a = some o ∧ F' a = none) ∨ some a = dd) → (∀ a, Fre H' a → Fre H a) → Rep A F' d v → Q v H') →
  Hdl A CS flds gs Q (.ref (A.ad y.cls)) dd H
end
theorem extn_fre {H H1 : Hp} (e : ExtN H H1) {a : Addr} (h : Fre H1 a) : Fre H a := fun o ho => by
  cases o with
  | tbl ps => exact ⟨ps, rfl⟩
  | _ => exact (fre_no (e a _ ho (fun _ z => by cases z)) (fun _ z => by cases z) h).elim
theorem fault_weak {A : Am} {CS : Addr} {flds : List Str} {gs : (Str → Option Bool) → (String → Option Bool) → GS} {kd : DX → Option D} {vs : List Nat} {g : GE} {E : XK} (hd : HdlOk A CS flds gs kd) (σ : L2.St) (H : Hp) (Q : VK) :
    tE A E (eFault vs kd g) σ H Q → tLam A.T (TTf A CS flds gs) (fun E' => tE A E' g) σ H Q := fun ⟨F, δ, P, Z, S, q, k, kx⟩ => by
  obtain ⟨F1, δ1, q1, S1, f1⟩ := frz_env S q
  refine ⟨S.tab, fun H1 eN T1 => ?_⟩
  have S2 := S1.hide eN T1
  refine ⟨F1, hideD δ1, _, _, S2, q1, fun r δ' F' H' v hp S' f R => ⟨.non, rfl, ?_⟩, fun y F' H' cls dd ⟨d, hk, hp⟩ er => ?_⟩
  · obtain ⟨S3, f3⟩ := S1.show_ f.up S'.sub S'.tab S'.ftab (fun a o h hf n => f.keep a o (eN a o h n) hf n hide_own) (fun a h => extn_fre eN (f.there a h))
    exact k (.fz .non) δ1 F' H' .non hp S3 (f1.trans f3) .non
  · rw [er.cl]
    refine hd y d F' H' dd Q hk er.sub er.tab er.ftab er.fs fun F'' H'' v le sub tab ftab keep there hr => ?_
    obtain ⟨S3, f3⟩ := S1.show_ (er.up.trans le) sub tab ftab (fun a o h hf n => by
      obtain ⟨h1, h2⟩ := er.keep a o (eN a o h n) hf n hide_own
      rcases keep a o h1 h2 n with z | z
      · exact z
      · exact (fre_no (eN a o h n) n (er.new a z.symm)).elim) (fun a h => extn_fre eN (er.there a (there a h)))
    exact k (.fz d) δ1 F'' H'' v hp S3 (f1.trans f3) hr
end DL
namespace DL
open PySem L2 Evl PySem.Spec PyProof.Rows
/-! ### a, b = x, y where a name is captured: the pair is made, then taken apart -/
section
variable {X : Cx} {A : Am} {E : XK} {i j : Nat} {x y : Str} {a b : Expr} {ga gb : GE} {px py pt pos : Pos} {kt k2 pt2}
theorem ds_par2c (hc : X.calm = true) (hN : X.N.Nodup) (hi : X.N[i]? = some x) (hj : X.N[j]? = some y)
    (hx : Loc X.env.scope x) (hy : Loc X.env.scope y) (hfx : X.fn x = true ∨ X.env.scope.names.lookup x = some .local) (hfy : X.fn y = true ∨ X.env.scope.names.lookup y = some .local) (ha : PE X a (tE A E ga)) (hb : PE X b (tE A E gb)) (hsa : starEach [a, b] X.env = (false, eval a X.env) :: starEach [b] X.env) (hsb : starEach [b] X.env = (false, eval b X.env) :: starEach [] X.env)
    (hs : swapsWithSole [.Tuple [.Name x px, .Name y py] kt pt] (.Tuple [a, b] k2 pt2) pos.line X.env = pure false) (hw : swappedStores [.Tuple [.Name x px, .Name y py] kt pt] (.Tuple [a, b] k2 pt2) X.env = pure none) :
    PS X (.Assign [.Tuple [.Name x px, .Name y py] kt pt] (.Tuple [a, b] k2 pt2) pos) (tS A E (sPar2 i j ga gb)) :=
  ps_weak (ps_asg (pe_tup (pa_cons ha (pa_cons hb pa_nil hsb) hsa)) (pg_tup (n := 2) hc (pgs_cons (pg_name hN hi hx hfx) (pgs_cons (pg_name hN hj hy hfy) pgs_nil))) hs hw) fun D σ H ⟨F, δ, B, S, q, kn, kb, kc, kr, kx⟩ => ⟨F, δ, _, _, S, q, fun r1 δ1 F1 H1 v1 q1 S1 f1 R1 => ⟨F1, δ1, _, _, S1, q1, fun r2 δ2 F2 H2 v2 ⟨⟨np1, n1, n2⟩, q2⟩ S2 f2 R2 => by
    refine ⟨by show 2 ≤ sizeLine; rw [sizeLine_eq]; decide, fun p hp => ?_⟩
    refine ⟨p, [v1, v2], rfl, st_of upd_same, rfl, v1, [v2], rfl, v2, [], rfl, rfl, ?_⟩
    have fn : F2 p = none := by
      cases e : F2 p with
      | none => rfl
      | some u => rw [S2.sub _ _ e] at hp; cases hp
    have m : New A F2 H2 F2 (upd H2 p (.tup [v1, v2])) (.fz .non) .non := ⟨Ex.refl _, Ex.new hp, S2.sub.trans (Ex.new hp), fun _ _ => rfl, fun b ps z => by
      by_cases hb : b = p
      · subst hb; rw [upd_same] at z; cases z
      · rw [upd_ne hb] at z; exact z, .non⟩
    obtain ⟨S2', f2', _⟩ := m.stt S2
    obtain ⟨R1', d1⟩ := R1.step (f2.trans f2')
    obtain ⟨R2', _⟩ := R2.step f2'
    obtain ⟨S3, f3⟩ := S2'.putS (i := i) (f1.trans (f2.trans f2')) (show RvS A σ δ H F2 (upd H2 p (.tup [v1, v2])) σ δ2 r1 v1 by cases r1 <;> exact R1') n1
    have R2'' : RvS A σ δ H F2 (upd H2 p (.tup [v1, v2])) (σ.set i (some v1)) (δ2.set i (some r1)) r2 v2 := by
      have R2b := R2'.back f1
      cases r2 with
      | fz d => exact R2'
      | ow o =>
        obtain ⟨c, e, ho, hb⟩ := R2b
        obtain ⟨c', e', ho', hb'⟩ := R2'
        rw [e] at e'; cases e'
        refine ⟨c, e, ho, fun b h => ⟨(hb b h).1, fun ⟨k, o', a', g1, g2, g3⟩ => ?_, (hb b h).2.2⟩⟩
        by_cases hk : k = i
        · subst hk
          rw [List.getElem?_set, if_pos rfl] at g1 g2
          split at g1
          · cases g1
            split at g2
            · have hv : v1 = .ref a' := Option.some.inj (Option.some.inj g2)
              obtain ⟨z1, z2⟩ := d1 o' rfl a' hv b
              obtain ⟨z3, z4⟩ := z2 (z1.mp g3)
              rcases (hb' b h).2.2 with z | z
              · exact z4 z
              · exact z3 z
            · cases g2
          · cases g1
        · rw [List.getElem?_set_ne (Ne.symm hk)] at g1 g2
          exact (hb b h).2.1 ⟨k, o', a', g1, g2, g3⟩
    obtain ⟨S4, f4⟩ := S3.putS (i := j) f3 R2'' n2
    exact kn _ _ _ _ q2 S4 f4, fun x _ _ _ _ z er => kx x _ _ _ _ z (er.back f1)⟩, kx⟩
/-- one of two readings -/
theorem pe_or2 {e : Expr} {t u : TE} (h1 : PE X e t) (h2 : PE X e u) : PE X e (fun σ H Q => t σ H Q ∨ u σ H Q) := ⟨fun pins s σ H Q I h => by
  rcases h with h | h
  · exact h1.run pins s σ H Q I h
  · exact h2.run pins s σ H Q I h⟩
end
end DL
namespace DL
open PySem L2 Evl PySem.Spec PyProof.Rows
/-! ### a def that a name holds is called -/
def eCallL (i : Nat) (nm : Str) (n : Nat) (df : DF) (gs : GA) : GE := fun δ P X => δ[i]? = some (some (.fz (.top nm))) ∧ eCallN n df gs δ P X
/-- one of two readings -/
def eOr2 (a b : GE) : GE := fun δ P X => a δ P X ∨ b δ P X
section
variable {X : Cx} {A : Am} {E : XK} {k n i : Nat} {fd : FuncData} {ps : List Str} {x nm : Str} {p pos : Pos} {e : Expr} {es : List Expr} {gs : GA} {df : DF} {g1 g2 : GE}
theorem de_callL (F : FnOk X.prog X.w X.K X.mg X.base (L2.CX X.prog X.w) k (A.ad nm) fd ps (spD A n df)) (hr : Room k X.A) (hN : X.N[i]? = some x) (hv : Vis X.env.scope x) (hk : PySem.W.keepIn X.K (.ref (A.ad nm)) = true) (hb : Binds X.K fd ps []) (hx : Passes (L2.CX X.prog X.w) X E)
    (ha : PA X (e :: es) (tAr A E gs)) (hdb : (x == ("__debug__" : Str)) = false := by decide) (hcd : (x == ("__classdict__" : Str)) = false := by decide) (he : starEach (e :: es) X.env = (false, eval e X.env) :: starEach es X.env := by rfl) (hpl : (backTo pos (starEach es X.env)).any (·.1) = false := by rfl) :
    PE X (.Call (.Name x p) (e :: es) [] pos) (tE A E (eCallL i nm n df gs)) :=
  pe_weak (pe_callL F hr hN hv hk hb .nil hx ha hdb hcd he hpl) fun σ H Q ⟨F, δ, P, Z, S, ⟨h0, q⟩, kk, kx⟩ => by
    refine ⟨?_, call_weak (A := A) (E := E) (gs := gs) σ H Q rfl ⟨F, δ, P, Z, S, q, kk, kx⟩⟩
    obtain ⟨v, e, r⟩ := S.sl i _ h0
    cases r
    exact e
theorem de_or2 {e : Expr} (h1 : PE X e (tE A E g1)) (h2 : PE X e (tE A E g2)) : PE X e (tE A E (eOr2 g1 g2)) := pe_weak (pe_or2 h1 h2) fun σ H Q ⟨F, δ, P, Z, S, q, kk, kx⟩ => by
  rcases q with q | q
  · exact .inl ⟨F, δ, P, Z, S, q, kk, kx⟩
  · exact .inr ⟨F, δ, P, Z, S, q, kk, kx⟩
end
end DL
namespace DL
open PySem L2 Evl PySem.Spec PyProof.Rows
/-! ### isinstance of built-in types, told -/
@[simp] theorem kb_NoneType_int : kitB "NoneType" "int" = some false := by kernel_rfl
@[simp] theorem kb_NoneType_bool : kitB "NoneType" "bool" = some false := by kernel_rfl
@[simp] theorem kb_NoneType_str : kitB "NoneType" "str" = some false := by kernel_rfl
@[simp] theorem kb_NoneType_list : kitB "NoneType" "list" = some false := by kernel_rfl
@[simp] theorem kb_NoneType_tuple : kitB "NoneType" "tuple" = some false := by kernel_rfl
@[simp] theorem kb_NoneType_dict : kitB "NoneType" "dict" = some false := by kernel_rfl
@[simp] theorem kb_bool_int : kitB "bool" "int" = some true := by kernel_rfl
@[simp] theorem kb_bool_bool : kitB "bool" "bool" = some true := by kernel_rfl
@[simp] theorem kb_bool_str : kitB "bool" "str" = some false := by kernel_rfl
@[simp] theorem kb_bool_list : kitB "bool" "list" = some false := by kernel_rfl
@[simp] theorem kb_bool_tuple : kitB "bool" "tuple" = some false := by kernel_rfl
@[simp] theorem kb_bool_dict : kitB "bool" "dict" = some false := by kernel_rfl
@[simp] theorem kb_int_int : kitB "int" "int" = some true := by kernel_rfl
@[simp] theorem kb_int_bool : kitB "int" "bool" = some false := by kernel_rfl
@[simp] theorem kb_int_str : kitB "int" "str" = some false := by kernel_rfl
@[simp] theorem kb_int_list : kitB "int" "list" = some false := by kernel_rfl
@[simp] theorem kb_int_tuple : kitB "int" "tuple" = some false := by kernel_rfl
@[simp] theorem kb_int_dict : kitB "int" "dict" = some false := by kernel_rfl
@[simp] theorem kb_str_int : kitB "str" "int" = some false := by kernel_rfl
@[simp] theorem kb_str_bool : kitB "str" "bool" = some false := by kernel_rfl
@[simp] theorem kb_str_str : kitB "str" "str" = some true := by kernel_rfl
@[simp] theorem kb_str_list : kitB "str" "list" = some false := by kernel_rfl
@[simp] theorem kb_str_tuple : kitB "str" "tuple" = some false := by kernel_rfl
@[simp] theorem kb_str_dict : kitB "str" "dict" = some false := by kernel_rfl
@[simp] theorem kb_tuple_int : kitB "tuple" "int" = some false := by kernel_rfl
@[simp] theorem kb_tuple_bool : kitB "tuple" "bool" = some false := by kernel_rfl
@[simp] theorem kb_tuple_str : kitB "tuple" "str" = some false := by kernel_rfl
@[simp] theorem kb_tuple_list : kitB "tuple" "list" = some false := by kernel_rfl
@[simp] theorem kb_tuple_tuple : kitB "tuple" "tuple" = some true := by kernel_rfl
@[simp] theorem kb_tuple_dict : kitB "tuple" "dict" = some false := by kernel_rfl
@[simp] theorem kb_list_int : kitB "list" "int" = some false := by kernel_rfl
@[simp] theorem kb_list_bool : kitB "list" "bool" = some false := by kernel_rfl
@[simp] theorem kb_list_str : kitB "list" "str" = some false := by kernel_rfl
@[simp] theorem kb_list_list : kitB "list" "list" = some true := by kernel_rfl
@[simp] theorem kb_list_tuple : kitB "list" "tuple" = some false := by kernel_rfl
@[simp] theorem kb_list_dict : kitB "list" "dict" = some false := by kernel_rfl
@[simp] theorem kb_dict_int : kitB "dict" "int" = some false := by kernel_rfl
@[simp] theorem kb_dict_bool : kitB "dict" "bool" = some false := by kernel_rfl
@[simp] theorem kb_dict_str : kitB "dict" "str" = some false := by kernel_rfl
@[simp] theorem kb_dict_list : kitB "dict" "list" = some false := by kernel_rfl
@[simp] theorem kb_dict_tuple : kitB "dict" "tuple" = some false := by kernel_rfl
@[simp] theorem kb_dict_dict : kitB "dict" "dict" = some true := by kernel_rfl
end DL
namespace DL
open PySem L2 Evl PySem.Spec PyProof.Rows LamX
/-! ### a def that holds a lambda: its code object is known -/
/-- the code object of the def at f is the one at c, its table stands at T -/
def CodeAt (A : Am) (base : Heap) (f c T : Addr) (qual : Str) : Prop := (∀ (oc : Value) (od : Option Addr) (nm q : Str) (pa : Arguments) (bo : List Stmt) (sc : Scope) (dV kV doc pm cdv ct : Value) (an : Option Addr) (osl : Array (Option Value)), A.K.lookup f = some ⟨oc, od, .func (PySem.W.fnOf nm q pa bo sc dV kV doc pm an cdv ct), osl⟩ → cdv = .ref c) ∧
  TabB base A.mg c T ∧ (T, (qual ++ ".<locals>.") ++ "<lambda>") ∈ A.T ∧ ∀ p ∈ A.T, p.1 = T → p.2 = (qual ++ ".<locals>.") ++ "<lambda>"
section
variable {P : Program} {w : World} {base : Heap} {A : Am}
theorem fnDc {x qual : Str} {st : Stmt} {f c Tb : Addr} {fd : FuncData} {N ps : List Str} {k : Nat} {g : GS} {df : DF} (F : Fun A.K x qual st f fd) (hc : CodeAt A base f c Tb qual) (Sc : FnScope N ps (defScope st))
    (body : ∀ (Ar : Around) (outer : List PySem.Env) (s : Shared) (H : Hp) (E : XK), Room k (Ar.deeper (envOfC qual (defScope st) s.heap.objs.size f (.ref c))) → PSs (cxOf (L2.CX P w) P w A.K A.mg base N qual (defScope st) f (.ref c) Ar outer s H E) (defBody st) (tS A E g))
    (hdf : ∀ ss P X, ss.length = ps.length → ss.all okArg = true → df ss P X → dfOf (N.length - ps.length) g ss P X) : FnOk P w A.K A.mg base (L2.CX P w) (k + 1) f fd ps (spD A ps.length df) := by
  obtain ⟨oc, od, kV, doc, pm, an, cdv, ct, osl, rfl, lk, hcd⟩ := F.ex
  have := hc.1 _ _ _ _ _ _ _ _ _ _ _ _ _ _ _ lk
  subst this
  exact fn_of lk hcd Sc (fun vs H Q E h => h.1) fun Ar outer s H vs Q E hr h => ⟨_, body Ar outer s H E hr, run_df hdf h⟩
end
/-- _law_fault(lambda: ..) -/
theorem de_fault {X : Cx} {A : Am} {E : XK} {k : Nat} {st : Stmt} {fd : FuncData} {c Tb CS : Addr} {flds : List Str} {gs : (Str → Option Bool) → (String → Option Bool) → GS} {kd : DX → Option D} {vs : List Nat} {g : GE} {params : Arguments} {body : Expr} {scope : Scope} {p lpos pos : Pos}
    (hK : A.K = X.K) (F : Fun X.K "_law_fault" "_law_fault" st (A.ad "_law_fault") fd) (hg : Gl X "_law_fault") (hm : X.mg "_law_fault" = some (.ref (A.ad "_law_fault"))) (hk : PySem.W.keepIn X.K (.ref (A.ad "_law_fault")) = true) (hb : Binds X.K fd ["call"] []) (Sg : FnScope ["call", "found", "e"] ["call"] (defScope st)) (hva : Vis (defScope st) "call")
    (hG : ∀ cdv, GivesTo X ["call", "found", "e"] "_law_fault" (defScope st) (A.ad "_law_fault") cdv (defBody st) "call" (X.env.qual ++ "<lambda>") (TTf A CS flds gs)) (hd : HdlOk A CS flds gs kd)
    (TB : TabB X.base X.mg c Tb) (hcode : X.env.code = .ref c) (hmT : (Tb, X.env.qual ++ "<lambda>") ∈ A.T) (hu : ∀ p ∈ A.T, p.1 = Tb → p.2 = X.env.qual ++ "<lambda>") (hr : Room (k + 2) X.A) (L : LamS X.env.scope scope) (hdef : defaultsOf params X.env = ([], []))
    (hbind : ∀ (q : Str) (cl : List (Str × Addr)) (pm cv ctv : Value), bindArgs (PySem.W.kla_fn "<lambda>" q params body scope cl pm cv ctv) ⟨[], []⟩ = pure [])
    (hbody : ∀ (Ar : Around) (outer : List PySem.Env) (s : Shared) (H : Hp) (E' : XK) (f c' : Addr), Room k (Ar.deeper (lamEnv X scope s.heap.objs.size f c')) → PE (lamCx X Ar outer s H E' scope f c') body (tE A E' g)) :
    PE X (.Call (.Name "_law_fault" p) [.Lambda params body scope lpos] [] pos) (tE A E (eFault vs kd g)) := by
  obtain ⟨oc, od, kV, doc, pm, an, cdv, ct, osl, rfl, lk, hcd⟩ := F.ex
  exact pe_weak (pe_lamcall (T := A.T) hg hm hk lk hcd hb Sg rfl hva (hG cdv) TB hcode hmT hu hr L hdef hbind hbody) (fault_weak hd)
end DL
namespace DL
open PySem L2 Evl PySem.Spec PyProof.Rows LamX
/-! ### the text's _law_fault, told once for all its calls -/
/-- the suite of its handler -/
def hSuite (st : Stmt) : List Stmt := match defBody st with
  | [_, .Try _ [.ExceptHandler _ _ su _] _ _ _, _] => su
  | _ => []
def isFault (st : Stmt) : Bool := match defBody st with
  | [.Assign [.Name a _] (.Constant .none _ _) _, .Try [.Expr (.Call (.Name b _) [] [] _) _] [.ExceptHandler (some (.Name c _)) (some d) (_ :: _) _] [] [] _, .Return (some (.Name e _)) _] => a == "found" && b == "call" && c == "RowError" && d == "e" && e == "found"
  | _ => false
theorem isFault_eq {st : Stmt} (h : isFault st = true) : ∃ (b₀ : Stmt) (suite : List Stmt) (j : Nat) (p0 p00 p000 p1 p2 p3 p4 p5 p6 p7 p8 : Pos), hSuite st = b₀ :: suite ∧ defBody st = [.Assign [.Name "found" p0] (.Constant .none j p00) p000, .Try [.Expr (.Call (.Name "call" p1) [] [] p2) p3] [.ExceptHandler (some (.Name "RowError" p4)) (some "e") (b₀ :: suite) p5] [] [] p6, .Return (some (.Name "found" p7)) p8] := by
  unfold isFault at h
  split at h
  · rename_i he
    simp only [Bool.and_eq_true, beq_iff_eq] at h
    obtain ⟨⟨⟨⟨rfl, rfl⟩, rfl⟩, rfl⟩, rfl⟩ := h
    exact ⟨_, _, _, _, _, _, _, _, _, _, _, _, _, _, by unfold hSuite; rw [he], he⟩
  · cases h
structure FltOk (A : Am) (n : Nat) (flds : List Str) (gs : (Str → Option Bool) → (String → Option Bool) → GS) (kd : DX → Option D) : Prop where
  st : ∃ (st : Stmt) (fd : FuncData), Fun A.K "_law_fault" "_law_fault" st (A.ad "_law_fault") fd ∧ A.mg "_law_fault" = some (.ref (A.ad "_law_fault")) ∧ PySem.W.keepIn A.K (.ref (A.ad "_law_fault")) = true ∧ L2.Binds A.K fd ["call"] [] ∧ FnScope ["call", "found", "e"] ["call"] (defScope st) ∧ Vis (defScope st) "call" ∧
    ∀ (X : Cx) (cdg : Value) (q : Str), A.K = X.K → A.mg = X.mg → L2H.RoomH n X.A → GivesTo X ["call", "found", "e"] "_law_fault" (defScope st) (A.ad "_law_fault") cdg (defBody st) "call" q (TTf A (A.ad "RowError") flds gs)
  hd : HdlOk A (A.ad "RowError") flds gs kd
theorem flt_mk {A : Am} {n : Nat} {flds : List Str} {gs : (Str → Option Bool) → (String → Option Bool) → GS} {kd : DX → Option D} {st : Stmt} (I : FI A "_law_fault" st ["call"]) (hme : A.mg "RowError" = some (.ref (A.ad "RowError")))
    (Sg : FnScope ["call", "found", "e"] ["call"] (defScope st)) (hf : isFault st = true) (h0 : (defScope st).names.lookup ("call" : Str) = some .local) (h1 : (defScope st).names.lookup ("found" : Str) = some .local) (h2 : (defScope st).names.lookup ("e" : Str) = some .local) (hge : (defScope st).names.lookup ("RowError" : Str) = some .globalImplicit)
    (hs : ∀ (P : Program) (w : World) (base : Heap) (Ar : Around) (stack : List PySem.Env) (cdg : Value) (s : Shared) (H : Hp) (a : Addr) (oe : Obj) (pn : List (Addr × Obj)) (D dd : Addr) (bs : Str → Option Bool) (bt : String → Option Bool), L2H.RoomH (n + 1) Ar → PinD A (a, oe) D dd flds bs bt →
      PSs ((cxOf C8.CX0 P w A.K A.mg base ["call", "found", "e"] "_law_fault" (defScope st) (A.ad "_law_fault") cdg Ar stack s H C8.E0).nox.suite a ((a, oe) :: pn)) (hSuite st) (tS (A.at a dd) EF (gs bs bt)))
    (hd : HdlOk A (A.ad "RowError") flds gs kd) : FltOk A (n + 1) flds gs kd := by
  obtain ⟨fd, F, B⟩ := I.fn
  refine ⟨⟨st, fd, F, I.mg, I.kp, B, Sg, .inl h0, fun X cdg q hK hmg hr => ?_⟩, hd⟩
  obtain ⟨b₀, suite, j, p0, p00, p000, p1, p2, p3, p4, p5, p6, p7, p8, e1, e2⟩ := isFault_eq hf
  rw [e2]
  refine fault_gives hK h0 h1 h2 hge (by rw [← hmg]; exact hme) fun s H a oe pn D dd bs bt hD => ?_
  have := hs X.prog X.w X.base X.A X.stack cdg s H a oe pn D dd bs bt hr hD
  rw [e1] at this
  rw [← hK, ← hmg]
  exact this
theorem de_flt {X : Cx} {A : Am} {E : XK} {k n : Nat} {c Tb : Addr} {flds : List Str} {gs : (Str → Option Bool) → (String → Option Bool) → GS} {kd : DX → Option D} {vs : List Nat} {g : GE} {params : Arguments} {body : Expr} {scope : Scope} {p lpos pos : Pos} (W : FltOk A n flds gs kd)
    (hK : A.K = X.K) (hmg : A.mg = X.mg) (hg : Gl X "_law_fault") (TB : TabB X.base X.mg c Tb) (hcode : X.env.code = .ref c) (hmT : (Tb, X.env.qual ++ "<lambda>") ∈ A.T) (hu : ∀ p ∈ A.T, p.1 = Tb → p.2 = X.env.qual ++ "<lambda>") (hr : Room (k + 2) X.A) (hn : n ≤ k + 2) (L : LamS X.env.scope scope) (hdef : defaultsOf params X.env = ([], []))
    (hbind : ∀ (q : Str) (cl : List (Str × Addr)) (pm cv ctv : Value), bindArgs (PySem.W.kla_fn "<lambda>" q params body scope cl pm cv ctv) ⟨[], []⟩ = pure [])
    (hbody : ∀ (Ar : Around) (outer : List PySem.Env) (s : Shared) (H : Hp) (E' : XK) (f c' : Addr), Room k (Ar.deeper (lamEnv X scope s.heap.objs.size f c')) → PE (lamCx X Ar outer s H E' scope f c') body (tE A E' g)) :
    PE X (.Call (.Name "_law_fault" p) [.Lambda params body scope lpos] [] pos) (tE A E (eFault vs kd g)) := by
  obtain ⟨st, fd, F, hm, hk, hb, Sg, hva, hG⟩ := W.st
  exact de_fault hK (hK ▸ F) hg (hmg ▸ hm) (hK ▸ hk) (hK ▸ hb) Sg hva (fun cdv => hG X cdv _ hK hmg ((L2H.roomH_of hr).mono hn)) W.hd TB hcode hmT hu hr L hdef hbind hbody
/-! ### what isinstance tells of an own error of class C -/
structure XKit (A : Am) (C : Str) (flds : List Str) (bs : Str → Option Bool) : Prop where
  cl : (PySem.W.clsIn A.K (A.ad C)).isSome = true
  xf : XfC A.K (A.ad C)
  ha : PySem.W.findIn A.K (.ref (A.ad C)) "__class__" = some (some (.builtin "object.__class__"))
  hn : PySem.W.specialIn A.K (.builtin "object.__class__") "__get__" = some (some (.builtin "getset_descriptor.__get__"))
  ht : PySem.W.takesIn A.K (.builtin "object.__class__") = some true
  hm : PySem.W.mroIn A.K (A.ad C) (.type "object") = some true
  ex : PySem.W.exmOne A.K (.ref (A.ad C)) (.ref (A.ad "RowError")) = some true
  ks : ∀ C' b, bs C' = some b → PySem.W.kitOne A.K (.ref (A.ad C)) (.ref (A.ad C')) = some b
  kv : PySem.W.kitOne A.K (.ref (A.ad C)) (.type "ValueError") = some true
  hf : ∀ f ∈ flds, PySem.W.findIn A.K (.ref (A.ad C)) f = some none
def btV (n : String) : Option Bool := if n = "ValueError" then some true else none
theorem XKit.pin {A : Am} {C : Str} {flds : List Str} {bs : Str → Option Bool} (k : XKit A C flds bs) {a dd : Addr} {oe : Obj} (hz : Zc (.ref (A.ad C)) (some dd) oe) (hv : ∃ vs, oe.data = .fields vs) : PinD A (a, oe) (A.ad C) dd flds bs btV :=
  ⟨⟨hz.1, hz.2, hv, k.cl, k.xf, k.ha, k.hn, k.ht, k.hm⟩, k.ks, (fun n b h => by
    unfold btV at h
    split at h
    · rename_i e; subst e; cases h; exact k.kv
    · cases h), k.hf⟩
/-- the suite's reading at an error whose fields are told -/
theorem hdl_mk {A : Am} {flds : List Str} {gs : (Str → Option Bool) → (String → Option Bool) → GS} {kd : DX → Option D} (bsOf : Str → Str → Option Bool) (hpin : A.pin = none) (hk : ∀ y d, kd y = some d → d.nox = true ∧ y.fs ≠ [] ∧ XKit A y.cls flds (bsOf y.cls) ∧
      gs (bsOf y.cls) btV [none, none, some (.fz (.exc y.fs))] { nx := fun δ' => ∃ s0 s2, δ' = [s0, some (.fz d), s2], rt := fun _ => False, bk := fun _ => False, ct := fun _ => False, ex := fun _ => False }) :
    HdlOk A (A.ad "RowError") flds gs kd := fun y d F H dd Q e sub tab ftab hfs hq => by
  obtain ⟨hx, hne, K, hg⟩ := hk y d e
  obtain ⟨e0, vs, rfl, hvs, hr⟩ : ∃ e vs, dd = some e ∧ H e = some (.xd vs) ∧ RepF A F y.fs vs := by
    rcases hfs with ⟨z, _⟩ | z
    · exact (hne z).elim
    · exact z
  refine ⟨K.ex, fun a x y' ha => ⟨A.ad y.cls, e0, bsOf y.cls, btV, rfl, rfl, fun oe hz hv => K.pin hz hv, ?_⟩⟩
  -- the fields are frozen
  have hF : ∃ F1, Le F F1 ∧ Ex F1 H ∧ F1 e0 = some (.xd vs) ∧ (∀ b, b ≠ e0 → F1 b = F b) := by
    cases hfe : F e0 with
    | none => exact ⟨upd F e0 (.xd vs), Le.new hfe, fun b o h => by
        by_cases hb : b = e0
        · subst hb; rw [upd_same] at h; cases h; exact hvs
        · rw [upd_ne hb] at h; exact sub _ _ h, upd_same, fun b hb => upd_ne hb⟩
    | some o =>
      have := sub _ _ hfe
      rw [hvs] at this; cases this
      exact ⟨F, Le.refl F, sub, hfe, fun _ _ => rfl⟩
  obtain ⟨F1, le1, sub1, fe, fo⟩ := hF
  have S : Stt (A.at a e0) F1 H [x, y', some (.ref a)] ([none, none] ++ [some (.fz (.exc y.fs))]) := by
    refine ⟨sub1, tab, fun b ps h => ?_, rfl, fun i s h => ?_, fun i j o o' a a' b h1 => ?_⟩
    · have : b ≠ e0 := fun z => by subst z; rw [hvs] at h; cases h
      rw [fo b this]; exact ftab b ps h
    · match i with
      | 0 => simp at h
      | 1 => simp at h
      | 2 =>
        simp at h
        subst h
        exact ⟨.ref a, rfl, .exc rfl fe ((RepF.into hpin _ hr).mono le1)⟩
      | i + 3 => simp at h
    · match i with
      | 0 => simp at h1
      | 1 => simp at h1
      | 2 => simp at h1
      | i + 3 => simp at h1
  have noown : ∀ b, ¬ Own [x, y', some (V.ref a)] ([none, none] ++ [some (Sl.fz (.exc y.fs))]) H b := fun b ⟨i, o, c, h1, _, _⟩ => by
    match i with
    | 0 => simp at h1
    | 1 => simp at h1
    | 2 => simp at h1
    | i + 3 => simp at h1
  refine ⟨F1, _, _, S, hg, fun δ' F' H' σ' ⟨s0, s2, hz⟩ S' f => ?_, fun _ _ _ _ z => z.elim, fun _ _ _ _ z => z.elim, fun _ _ _ _ _ _ z => z.elim, fun _ _ _ _ _ z => z.elim⟩
  subst hz
  have hl := S'.len
  match σ', hl with
  | [u0, u1, u2], _ =>
    obtain ⟨v, hv, hrep⟩ := S'.sl 1 (.fz d) rfl
    have hv' : u1 = some v := by simpa using hv
    subst hv'
    refine ⟨u0, v, u2, rfl, hq F' H' v (le1.trans f.up) S'.sub S'.tab S'.ftab (fun b o h hf n => ?_) f.there (Rep.outof d hx hrep)⟩
    by_cases hb : b = e0
    · subst hb; exact .inr rfl
    · exact .inl (f.keep b o h (by rw [fo b hb]; exact hf) n (noown b))
end DL
namespace DL
open PySem L2 Evl PySem.Spec PyProof.Rows LamX
/-! ### what the walk asks of the text, from the written part -/
abbrev am (K : PySem.W.Frag) (mg : Str → Option Value) (T : List (Addr × Str)) : Am := ⟨K, mg, T, none⟩
def adK (K : PySem.W.Frag) (x : Str) : Addr := match PySem.W.nsIn K mainGlobals x with
  | some (some (.ref a)) => a
  | _ => 0
def inK (K : PySem.W.Frag) (C : Addr) : Addr := match PySem.W.findIn K (.ref C) "__init__" with
  | some (some (.ref a)) => a
  | _ => 0
def obK (K : PySem.W.Frag) (f : Addr) : Obj := (K.lookup f).getD ⟨.none, none, .plain, #[]⟩
def fdK (K : PySem.W.Frag) (f : Addr) : FuncData := match (obK K f).data with
  | .func fd => fd
  | _ => default
def clK (K : PySem.W.Frag) (f : Addr) : ClassData := match (obK K f).data with
  | .cls c => c
  | _ => default
def fnK (K : PySem.W.Frag) (f : Addr) (x qual : Str) (st : Stmt) : FuncData := PySem.W.fnOf x qual (defArgs st) (defBody st) (defScope st) .none (fdK K f).kwdefaults (fdK K f).doc (fdK K f).pyModule (fdK K f).annotations (fdK K f).code (fdK K f).closureTuple
def obF (K : PySem.W.Frag) (f : Addr) (x qual : Str) (st : Stmt) : Option Obj := some ⟨(obK K f).cls, (obK K f).dict, .func (fnK K f x qual st), (obK K f).slots⟩
def slK (K : PySem.W.Frag) (f : Addr) (i : Nat) : Option Value := (obK K f).slots.getD i none
def obX (K : PySem.W.Frag) (C : Addr) : Option Obj := some (excClassObj (clK K C).name (clK K C).qualname C (clK K C).ns (clK K C).bases (clK K C).mro.tail true (clK K C).slotNames (clK K C).subclasses (clK K C).abstract (clK K C).collection (obK K C).dict (slK K C 0) (slK K C 1) (slK K C 2) (slK K C 3) (slK K C 5) "ValueError.__new__")
def nmB (K : PySem.W.Frag) (x : Str) : Bool := decide (PySem.W.nsIn K mainGlobals x = some (some (.ref (adK K x))))
section
variable {K : PySem.W.Frag} {mg : Str → Option Value} {T : List (Addr × Str)} {h : Heap}
theorem nm_mg (X : K.In h) (G : h.Ns mainGlobals mg) {x : Str} (e : nmB K x = true) : mg x = some (.ref (adK K x)) := PySem.W.mg_of X G (of_decide_eq_true e)
theorem nm_ad (X : K.In h) (G : h.Ns mainGlobals mg) {x : Str} (e : nmB K x = true) : (am K mg T).ad x = adK K x := by
  unfold Am.ad
  show (match mg x with | some (.ref a) => a | _ => 0) = adK K x
  rw [nm_mg X G e]
theorem nm_mg' (X : K.In h) (G : h.Ns mainGlobals mg) {x : Str} (e : nmB K x = true) : (am K mg T).mg x = some (.ref ((am K mg T).ad x)) := by
  rw [nm_ad X G e]; exact nm_mg X G e
theorem nm_rel (X : K.In h) (G : h.Ns mainGlobals mg) {x : Str} (e : nmB K x = true) : ∃ u, (am K mg T).mg x = some u ∧ RelV (.ref ((am K mg T).ad x)) u := ⟨_, nm_mg' X G e, rfl⟩
theorem nm_none (X : K.In h) (G : h.Ns mainGlobals mg) {x : Str} (e : decide (PySem.W.nsIn K mainGlobals x = some none) = true) : (am K mg T).mg x = none := PySem.W.mg_none_of X G (of_decide_eq_true e)
theorem nm_int (X : K.In h) (G : h.Ns mainGlobals mg) {x : Str} {i : Int} {v : Value} (e : PySem.W.nsIn K mainGlobals x = some (some v)) (r : RelV (.int i) v) : ∃ u, (am K mg T).mg x = some u ∧ RelV (.int i) u := ⟨_, PySem.W.mg_of X G e, r⟩
def BindsBy (x qual : Str) (st : Stmt) (ps : List Str) : Prop := ∀ (kV doc pm : Value) (an : Option Addr) (cdv ct : Value) (us : List Value), us.length = ps.length → bindArgs (PySem.W.fnOf x qual (defArgs st) (defBody st) (defScope st) .none kV doc pm an cdv ct) ⟨us, []⟩ = pure (ps.zip us)
def fnB (K : PySem.W.Frag) (f : Addr) (qual : Str) : Bool := PySem.W.codeIn K (fdK K f).code qual && PySem.W.keepIn K (.ref f)
theorem fun_of {f : Addr} {x qual : Str} {st : Stmt} (l : K.lookup f = obF K f x qual st) (e : fnB K f qual = true) : Fun K x qual st f (fnK K f x qual st) := by
  unfold fnB at e
  obtain ⟨e1, e2⟩ := Bool.and_eq_true_iff.mp e
  exact fun_mk l e1 e2
theorem fi_mk (X : K.In h) (G : h.Ns mainGlobals mg) {x : Str} {st : Stmt} {ps : List Str} (e : nmB K x = true) (l : K.lookup (adK K x) = obF K (adK K x) x x st) (b : fnB K (adK K x) x = true) (hb : BindsBy x x st ps) : FI (am K mg T) x st ps := by
  have F := fun_of l b
  refine ⟨nm_mg' X G e, ?_, ?_⟩
  · rw [nm_ad X G e]; exact F.kp
  · rw [nm_ad X G e]; exact ⟨_, F, F.binds hb⟩
def clsB (K : PySem.W.Frag) (C : Addr) : Bool := PySem.W.plainGet K C Str.empty && (PySem.W.hasDictIn K C && (PySem.W.plainOver K C && decide (PySem.W.findIn K (.ref C) "__setattr__" = some (some (.builtin "object.__setattr__")))))
theorem cls_of {C : Addr} (e : clsB K C = true) : Cls K C := by
  unfold clsB at e
  obtain ⟨e1, e⟩ := Bool.and_eq_true_iff.mp e
  obtain ⟨e2, e⟩ := Bool.and_eq_true_iff.mp e
  obtain ⟨e3, e4⟩ := Bool.and_eq_true_iff.mp e
  exact ⟨e1, e2, e3, of_decide_eq_true e4⟩
def noB (K : PySem.W.Frag) (C : Addr) (f : Str) : Bool := decide (PySem.W.findIn K (.ref C) f = some none)
theorem fld_mk (X : K.In h) (G : h.Ns mainGlobals mg) {C f : Str} (e : nmB K C = true) (c : clsB K (adK K C) = true) (n : noB K (adK K C) f = true) : FldOk (am K mg T) C f := by
  refine ⟨?_, ?_⟩
  · rw [nm_ad X G e]; exact cls_of c
  · rw [nm_ad X G e]; exact (show PySem.W.findIn K (.ref (adK K C)) f = some none from of_decide_eq_true n)
def objB (K : PySem.W.Frag) (C : Addr) : Bool := decide (PySem.W.findIn K (.ref C) "__class__" = some (some (.builtin "object.__class__"))) && (decide (PySem.W.specialIn K (.builtin "object.__class__") "__get__" = some (some (.builtin "getset_descriptor.__get__"))) && (decide (PySem.W.takesIn K (.builtin "object.__class__") = some true) && decide (PySem.W.mroIn K C (.type "object") = some true)))
def tysB (K : PySem.W.Frag) (C : Addr) : Bool := tys7.all fun t => decide (PySem.W.kitOne K (.type t) (.ref C) = some false) && decide (PySem.W.kitOne K (.ref C) (.type t) = some false)
theorem clsok_mk (X : K.In h) (G : h.Ns mainGlobals mg) {C : Str} (e : nmB K C = true) (c : clsB K (adK K C) = true) (o : objB K (adK K C) = true) (t : tysB K (adK K C) = true) : ClsOk (am K mg T) C := by
  have ea := nm_ad (T := T) X G e
  unfold objB at o
  obtain ⟨o1, o⟩ := Bool.and_eq_true_iff.mp o
  obtain ⟨o2, o⟩ := Bool.and_eq_true_iff.mp o
  obtain ⟨o3, o4⟩ := Bool.and_eq_true_iff.mp o
  have t' := List.all_eq_true.mp t
  exact ⟨by rw [ea]; exact cls_of c, by rw [ea]; exact of_decide_eq_true o1, of_decide_eq_true o2, of_decide_eq_true o3, by rw [ea]; exact of_decide_eq_true o4,
    fun ty h => by rw [ea]; exact of_decide_eq_true (Bool.and_eq_true_iff.mp (t' ty h)).1, fun ty h => by rw [ea]; exact of_decide_eq_true (Bool.and_eq_true_iff.mp (t' ty h)).2⟩
def mkB (K : PySem.W.Frag) (C : Addr) : Bool := PySem.W.makesIn K C && (decide (PySem.W.findIn K (.ref C) "__init__" = some (some (.ref (inK K C)))) && (PySem.W.isFn K (.ref (inK K C)) && PySem.W.keepIn K (.ref C)))
theorem ri_mk (X : K.In h) (G : h.Ns mainGlobals mg) {C qual : Str} {st : Stmt} {ps : List Str} (e : nmB K C = true) (m : mkB K (adK K C) = true) (l : K.lookup (inK K (adK K C)) = obF K (inK K (adK K C)) "__init__" qual st) (b : fnB K (inK K (adK K C)) qual = true) (hb : BindsBy "__init__" qual st ps) : RI (am K mg T) C qual st ps := by
  have ea := nm_ad (T := T) X G e
  have F := fun_of l b
  unfold mkB at m
  obtain ⟨m1, m⟩ := Bool.and_eq_true_iff.mp m
  obtain ⟨m2, m⟩ := Bool.and_eq_true_iff.mp m
  obtain ⟨m3, m4⟩ := Bool.and_eq_true_iff.mp m
  exact ⟨nm_mg' X G e, by rw [ea]; exact ⟨_, _, ⟨m1, of_decide_eq_true m2, m3, m4⟩, F, F.binds hb⟩⟩
def exB (K : PySem.W.Frag) (C : Addr) : Bool := PySem.HandSPX.refsVE (clK K C).mro.tail && (decide (PySem.W.findIn K (.ref C) "__setattr__" = some (some (.builtin "object.__setattr__"))) && (decide (PySem.W.subIn K (.ref C) (.type "BaseException") = some true) && (decide (PySem.W.typeIn K (.ref C) = some (.type "type")) && PySem.W.keepIn K (.ref C))))
theorem oex_of {C : Addr} (l : K.lookup C = obX K C) (e : exB K C = true) : OexC K C := by
  unfold exB at e
  obtain ⟨e1, e⟩ := Bool.and_eq_true_iff.mp e
  obtain ⟨e2, e⟩ := Bool.and_eq_true_iff.mp e
  obtain ⟨e3, e⟩ := Bool.and_eq_true_iff.mp e
  obtain ⟨e4, e5⟩ := Bool.and_eq_true_iff.mp e
  exact ⟨⟨_, _, _, _, _, _, _, _, _, _, _, _, _, _, _, l, e1⟩, of_decide_eq_true e2, of_decide_eq_true e3, of_decide_eq_true e4, e5⟩
def xiB (K : PySem.W.Frag) (C : Addr) : Bool := decide (PySem.W.findIn K (.ref C) "__init__" = some (some (.ref (inK K C)))) && decide (PySem.W.typeIn K (.ref (inK K C)) = some (.type "function"))
theorem xi1_mk (X : K.In h) (G : h.Ns mainGlobals mg) {C qual f1 : Str} {st : Stmt} {ps : List Str} (e : nmB K C = true) (lx : K.lookup (adK K C) = obX K (adK K C)) (x : exB K (adK K C) = true) (i : xiB K (adK K C) = true) (n1 : noB K (adK K C) f1 = true)
    (l : K.lookup (inK K (adK K C)) = obF K (inK K (adK K C)) "__init__" qual st) (b : fnB K (inK K (adK K C)) qual = true) (hb : BindsBy "__init__" qual st ps) : XI1 (am K mg T) C qual st ps f1 := by
  have ea := nm_ad (T := T) X G e
  have F := fun_of l b
  unfold xiB at i
  obtain ⟨i1, i2⟩ := Bool.and_eq_true_iff.mp i
  exact ⟨nm_mg' X G e, by rw [ea]; exact oex_of lx x, by rw [ea]; exact of_decide_eq_true n1, by rw [ea]; exact ⟨_, _, of_decide_eq_true i1, of_decide_eq_true i2, F, F.binds hb⟩⟩
theorem xi2_mk (X : K.In h) (G : h.Ns mainGlobals mg) {C qual f1 f2 : Str} {st : Stmt} {ps : List Str} (e : nmB K C = true) (lx : K.lookup (adK K C) = obX K (adK K C)) (x : exB K (adK K C) = true) (i : xiB K (adK K C) = true) (n1 : noB K (adK K C) f1 = true) (n2 : noB K (adK K C) f2 = true)
    (l : K.lookup (inK K (adK K C)) = obF K (inK K (adK K C)) "__init__" qual st) (b : fnB K (inK K (adK K C)) qual = true) (hb : BindsBy "__init__" qual st ps) : XI2 (am K mg T) C qual st ps f1 f2 := by
  have ea := nm_ad (T := T) X G e
  have F := fun_of l b
  unfold xiB at i
  obtain ⟨i1, i2⟩ := Bool.and_eq_true_iff.mp i
  exact ⟨nm_mg' X G e, by rw [ea]; exact oex_of lx x, by rw [ea]; exact of_decide_eq_true n1, by rw [ea]; exact of_decide_eq_true n2, by rw [ea]; exact ⟨_, _, of_decide_eq_true i1, of_decide_eq_true i2, F, F.binds hb⟩⟩
def xkB (K : PySem.W.Frag) (C : Str) (flds L : List Str) : Bool := (PySem.W.clsIn K (adK K C)).isSome && (xfB K (adK K C) && (objB K (adK K C) && (nmB K "RowError" && (decide (PySem.W.exmOne K (.ref (adK K C)) (.ref (adK K "RowError")) = some true) && ((L.all fun C2 => nmB K C2 && decide (PySem.W.kitOne K (.ref (adK K C)) (.ref (adK K C2)) = some (C == C2))) && (decide (PySem.W.kitOne K (.ref (adK K C)) (.type "ValueError") = some true) && flds.all fun f => noB K (adK K C) f))))))
theorem xk_mk (X : K.In h) (G : h.Ns mainGlobals mg) {C : Str} {flds L : List Str} {bs : Str → Option Bool} (e : nmB K C = true) (x : xkB K C flds L = true) (hb : ∀ C2 b, bs C2 = some b → C2 ∈ L ∧ b = (C == C2)) : XKit (am K mg T) C flds bs := by
  have ea := nm_ad (T := T) X G e
  unfold xkB objB at x
  simp only [Bool.and_eq_true, List.all_eq_true, decide_eq_true_eq] at x
  obtain ⟨x1, x2, ⟨o1, o2, o3, o4⟩, x3, x4, x5, x6, x7⟩ := x
  have er := nm_ad (T := T) X G x3
  refine ⟨by rw [ea]; exact x1, by rw [ea]; exact xfB_ok x2, by rw [ea]; exact o1, o2, o3, by rw [ea]; exact o4, by rw [ea, er]; exact x4, fun C2 b hc => ?_, by rw [ea]; exact x6, fun f hf => by rw [ea]; exact of_decide_eq_true (x7 f hf)⟩
  obtain ⟨z1, rfl⟩ := hb C2 b hc
  obtain ⟨z2, z3⟩ := x5 C2 z1
  rw [ea, nm_ad X G z2]
  exact z3
/-! ### the tables of code objects -/
/-- the code object of the def x, and its table -/
def cdK (K : PySem.W.Frag) (x : Str) : Addr := match (fdK K (adK K x)).code with
  | .ref c => c
  | _ => 0
def tbK (K : PySem.W.Frag) (x : Str) : Addr := match (obK K (cdK K x)).data with
  | .fields vs => (match (vs[11]? : Option Value) with
    | some (.ref P) => P
    | _ => 0)
  | _ => 0
def cdB (K : PySem.W.Frag) (x : Str) : Bool := decide ((fdK K (adK K x)).code = .ref (cdK K x)) && (PySem.W.codeHdIn K (cdK K x) (tbK K x) && (K.lookup (tbK K x)).isNone)
theorem code_mk (X : K.In h) (G : h.Ns mainGlobals mg) {base : Heap} {x : Str} {st : Stmt} (e : nmB K x = true) (c : cdB K x = true) (l : K.lookup (adK K x) = obF K (adK K x) x x st) (hT : TabB base mg (cdK K x) (tbK K x)) (hm : (tbK K x, (x ++ ".<locals>.") ++ "<lambda>") ∈ T) (hu : ∀ p ∈ T, p.1 = tbK K x → p.2 = (x ++ ".<locals>.") ++ "<lambda>") : ∃ cc ct, CodeAt (am K mg T) base ((am K mg T).ad x) cc ct x := by
  unfold cdB at c
  obtain ⟨c1, _⟩ := Bool.and_eq_true_iff.mp c
  have c1 := of_decide_eq_true c1
  refine ⟨cdK K x, tbK K x, fun oc od nm q pa bo sc dV kV doc pm cdv ct an osl lk => ?_, hT, hm, hu⟩
  have lk' : K.lookup (adK K x) = some ⟨oc, od, .func (PySem.W.fnOf nm q pa bo sc dV kV doc pm an cdv ct), osl⟩ := by rw [← nm_ad (T := T) X G e]; exact lk
  have : fdK K (adK K x) = PySem.W.fnOf nm q pa bo sc dV kV doc pm an cdv ct := by unfold fdK obK; rw [lk']; rfl
  rw [this] at c1
  exact c1
end
end DL
namespace DL
open PySem L2 Evl PySem.Spec PyProof.Rows LamX
def ntB (K : PySem.W.Frag) (x : Str) (i : Int) : Bool := match PySem.W.nsIn K mainGlobals x with
  | some (some (.int j _)) => decide (i = j)
  | _ => false
section
variable {K : PySem.W.Frag} {mg : Str → Option Value} {T : List (Addr × Str)} {h : Heap}
theorem nt_mk (X : K.In h) (G : h.Ns mainGlobals mg) {x : Str} {i : Int} (e : ntB K x i = true) : ∃ u, (am K mg T).mg x = some u ∧ RelV (.int i) u := by
  unfold ntB at e
  split at e
  · rename_i j t hj
    have := of_decide_eq_true e
    subst this
    exact ⟨_, PySem.W.mg_of X G hj, _, rfl⟩
  · cases e
theorem in_tabs {ts : List Addr} {Q : Addr → Prop} (h : ∀ P ∈ ts, Q P) {b : Addr} (e : ts.contains b = true) : Q b := h b (by simpa using e)
theorem cd_hd (X : K.In h) {x : Str} (c : cdB K x = true) : PySem.W.CodeHd h (cdK K x) (tbK K x) ∧ K.lookup (tbK K x) = none := by
  unfold cdB at c
  obtain ⟨_, c⟩ := Bool.and_eq_true_iff.mp c
  obtain ⟨c2, c3⟩ := Bool.and_eq_true_iff.mp c
  exact ⟨PySem.W.codeHd_of_K X c2, by simpa using c3⟩
end
/-- the law's promise from its data reading -/
theorem sp_law {A : Am} {df : DF} {cs : List (Addr × Addr)} (hT : ∀ p ∈ A.T, ∃ c, (c, p.1) ∈ cs) {n : Nat} (hl : ∀ ns : List Int, ns.length ≤ n → df [.fz (.scr ns)] (fun r => r = .fz (.bl true)) (fun _ => False))
    (H : Hp) (a : Addr) (ns : List Int) (hn : ns.length ≤ n) (hH : ∀ p ∈ cs, H p.2 = some (.tbl #[])) (hS : SqL A.K H a (ns.map V.int)) : spD A 1 df [.ref a] H (fun v _ => v = .bl true) fun _ _ _ => False := by
  have tabs : Tabs A.T H := fun p hp => by
    obtain ⟨c, hc⟩ := hT p hp
    exact ⟨#[], hH _ hc, trivial, fun pos cv hcv => by cases hcv⟩
  have fin : ∀ F : Hp, Ex F H → (∀ b ps, H b = some (.tbl ps) → F b = none) → SqL A.K F a (ns.map V.int) → spD A 1 df [.ref a] H (fun v _ => v = .bl true) fun _ _ _ => False := fun F sub ft hs => by
    refine ⟨rfl, F, [.fz (.scr ns)], _, _, ⟨sub, tabs, ft, rfl, fun i s h => ?_, fun i j o o' a a' b h1 => ?_⟩, rfl, hl ns hn, fun r F' H' v hr R => ?_, fun _ _ _ _ _ z => z.elim⟩
    · cases i with
      | zero => simp at h; subst h; exact ⟨.ref a, rfl, .scr hs⟩
      | succ i => simp at h
    · cases i with
      | zero => simp at h1
      | succ i => simp at h1
    · subst hr
      have := R.res
      cases this
      rfl
  rcases hS with hS | hS
  · rcases hS with hS | ⟨ob, hS⟩
    · refine fin (upd (fun _ => none) a (.lst (ns.map V.int))) (fun b o e => ?_) (fun b ps hb => ?_) (.inl (.inl upd_same))
      · by_cases hb : b = a
        · subst hb; rw [upd_same] at e; cases e; exact hS
        · rw [upd_ne hb] at e; cases e
      · have : b ≠ a := fun z => by subst z; rw [hS] at hb; cases hb
        rw [upd_ne this]
    · refine fin (upd (fun _ => none) a (.frz ob (.lst (ns.map V.int)))) (fun b o e => ?_) (fun b ps hb => ?_) (.inl (.inr ⟨ob, upd_same⟩))
      · by_cases hb : b = a
        · subst hb; rw [upd_same] at e; cases e; exact hS
        · rw [upd_ne hb] at e; cases e
      · have : b ≠ a := fun z => by subst z; rw [hS] at hb; cases hb
        rw [upd_ne this]
  · exact fin (fun _ => none) (fun b o e => by cases e) (fun _ _ _ => rfl) (.inr hS)
end DL
namespace DL
open PySem L2 Evl PySem.Spec PyProof.Rows LamX
/-! ### readings of loops and comprehensions -/
/-- one element of a comprehension: what it gives, and the names behind -/
def lcEl (gg : GG) (gt : GT) (ge : GE) (vs : List Nat) (d : D) (δ : Env) (k : Option D → Env → Prop) : Prop :=
  gg d δ fun δ2 => gt δ2 (fun b δ3 => if b = true then ge δ3 (fun r δ4 => vw r fun y => npOk δ4 vs ∧ k (some y) (wipeD δ4 vs)) noX else npOk δ3 vs ∧ k none (wipeD δ3 vs)) noX
theorem lcD_cons {gg : GG} {gt : GT} {ge : GE} {vs : List Nat} {d : D} {ds : List D} {δ : Env} {k : List D → Env → Prop} (h : lcEl gg gt ge vs d δ fun o δ1 => match o with | some y => lcD gg gt ge vs ds δ1 fun ys δ5 => k (y :: ys) δ5 | none => lcD gg gt ge vs ds δ1 k) : lcD gg gt ge vs (d :: ds) δ k := h
/-- each element has a value (or is left out), the names stay -/
theorem lcD_fm {gg : GG} {gt : GT} {ge : GE} {vs : List Nat} {δ : Env} (f : D → Option D) : ∀ {ds : List D} {k : List D → Env → Prop}, (∀ d ∈ ds, ∀ k : Option D → Env → Prop, k (f d) δ → lcEl gg gt ge vs d δ k) → k (ds.filterMap f) δ → lcD gg gt ge vs ds δ k
  | [], k, _, h => h
  | d :: ds, k, hs, h => by
    refine lcD_cons (hs d List.mem_cons_self _ ?_)
    cases e : f d with
    | none =>
      rw [List.filterMap_cons, e] at h
      exact lcD_fm f (fun d hd => hs d (List.mem_cons_of_mem _ hd)) h
    | some y =>
      rw [List.filterMap_cons, e] at h
      exact lcD_fm f (fun d hd => hs d (List.mem_cons_of_mem _ hd)) h
/-- each element has a value with a property -/
theorem lcD_any {gg : GG} {gt : GT} {ge : GE} {vs : List Nat} {δ : Env} (p : D → Prop) : ∀ {ds : List D} {k : List D → Env → Prop}, (∀ d ∈ ds, ∀ k : Option D → Env → Prop, (∀ y, p y → k (some y) δ) → lcEl gg gt ge vs d δ k) → (∀ ys : List D, ys.length = ds.length → (∀ y ∈ ys, p y) → k ys δ) → lcD gg gt ge vs ds δ k
  | [], k, _, h => h [] rfl (fun _ z => by cases z)
  | d :: ds, k, hs, h => by
    refine lcD_cons (hs d List.mem_cons_self _ fun y hy => ?_)
    refine lcD_any p (fun d hd => hs d (List.mem_cons_of_mem _ hd)) fun ys hl hys => h (y :: ys) (by simp [hl]) fun z hz => ?_
    rcases List.mem_cons.mp hz with rfl | hz
    · exact hy
    · exact hys z hz
/-- each element is related to its value -/
theorem lcD_rel {gg : GG} {gt : GT} {ge : GE} {vs : List Nat} {δ : Env} {α : Type} (up : α → D) (R : D → α → Prop) : ∀ {ds : List D} {k : List D → Env → Prop}, (∀ d ∈ ds, ∀ k : Option D → Env → Prop, (∀ y, R d y → k (some (up y)) δ) → lcEl gg gt ge vs d δ k) → (∀ ys : List α, ys.length = ds.length → (∀ (i : Nat) (d : D) (y : α), ds[i]? = some d → ys[i]? = some y → R d y) → k (ys.map up) δ) → lcD gg gt ge vs ds δ k
  | [], k, _, h => h [] rfl (fun _ _ _ z => by simp at z)
  | d :: ds, k, hs, h => by
    refine lcD_cons (hs d List.mem_cons_self _ fun y hy => ?_)
    refine lcD_rel up R (fun d hd => hs d (List.mem_cons_of_mem _ hd)) fun ys hl hys => h (y :: ys) (by simp [hl]) fun i e z h1 h2 => ?_
    cases i with
    | zero => simp at h1 h2; subst h1; subst h2; exact hy
    | succ i => simp at h1 h2; exact hys i e z h1 h2
/-- one turn of a comprehension of two fors -/
theorem lcD2_cons {gg : GG} {gt : GT} {gi1 : GI} {gg1 : GG} {gt1 : GT} {ge : GE} {vs vs1 : List Nat} {d : D} {ds : List D} {n : Nat} {δ : Env} {k : List D → Env → Prop} (h : gg d δ fun δ2 => gt δ2 (fun b δ3 => if b = true then gi1 δ3 (fun es δ4 => npOk δ4 vs1 ∧ n + es.length ≤ 100000 ∧ lcD gg1 gt1 ge vs1 es (wipeD δ4 vs1) fun ys δ5 => npOk δ5 vs ∧ lcD2 gg gt gi1 gg1 gt1 ge vs vs1 ds (n + ys.length) (wipeD δ5 vs) fun zs δ6 => k (ys ++ zs) δ6) noX
      else npOk δ3 vs ∧ lcD2 gg gt gi1 gg1 gt1 ge vs vs1 ds n (wipeD δ3 vs) k) noX) : lcD2 gg gt gi1 gg1 gt1 ge vs vs1 (d :: ds) n δ k := h
/-- a for with an invariant: I i at turn i -/
theorem forD_inv {gt : GG} {gb : GS} {B : EndsD} (I : Nat → Env → Prop) : ∀ {ds : List D} {δ : Env} (i : Nat), I i δ →
    (∀ (j : Nat) (d : D) (δ : Env) (N : Env → Prop), ds[j]? = some d → I (i + j) δ → (∀ δ', I (i + j + 1) δ' → N δ') → gt d δ fun δ1 => gb δ1 { B with nx := N, ct := N, bk := B.nx }) → (∀ δ', I (i + ds.length) δ' → B.nx δ') → forD gt gb ds δ B
  | [], δ, i, h0, _, hk => hk δ h0
  | d :: ds, δ, i, h0, hs, hk => by
    refine hs 0 d δ _ rfl h0 fun δ' h' => ?_
    refine forD_inv (B := B) I (i + 1) h' (fun j e δ2 N he hI hN => ?_) fun δ2 h2 => hk δ2 ?_
    · exact hs (j + 1) e δ2 N (by simpa using he) (by rw [show i + (j + 1) = i + 1 + j by omega]; exact hI) (fun δ3 h3 => hN δ3 (by rw [show i + 1 + j + 1 = i + (j + 1) + 1 by omega]; exact h3))
    · rw [show i + (d :: ds).length = i + 1 + ds.length by simp; omega]; exact h2
theorem rgD_eq : ∀ (n : Nat) (lo : Int), rgD lo n = (List.range n).map fun (i : Nat) => D.int (lo + (i : Int))
  | 0, _ => rfl
  | n + 1, lo => by
    rw [rgD, rgD_eq n (lo + 1), List.range_succ_eq_map, List.map_cons, List.map_map]
    congr 1
    · simp
    · apply List.map_congr_left; intro i _; simp; omega
theorem rg0_eq (n : Nat) : rgD 0 n = (List.range n).map fun (i : Nat) => D.int (i : Int) := by rw [rgD_eq]; simp
theorem rg_len (n : Nat) (lo : Int) : (rgD lo n).length = n := by rw [rgD_eq]; simp
/-! ### plain data -/
@[simp] theorem ok_int (i : Int) : (D.int i).ok = true := by unfold D.ok D.okp; simp [D.py, PyData.depth]
@[simp] theorem ok_bl (b : Bool) : (D.bl b).ok = true := by unfold D.ok D.okp; simp [D.py, PyData.depth]
@[simp] theorem ok_non : D.non.ok = true := by unfold D.ok D.okp; simp [D.py, PyData.depth]
@[simp] theorem eqv_int (i j : Int) : PyData.eqv (D.int i).py (D.int j).py = decide (i = j) := by simp [D.py, PyData.eqv, Bool.beq_eq_decide_eq]
@[simp] theorem eqv_int' (i j : Int) : PyData.eqv (.int i) (.int j) = decide (i = j) := by simp [PyData.eqv, Bool.beq_eq_decide_eq]
abbrev intL (l : List Int) : List D := l.map D.int
abbrev natL (l : List Nat) : List D := l.map fun (n : Nat) => D.int (n : Int)
theorem okps_ints : ∀ l : List Int, D.okps (intL l) = true
  | [] => rfl
  | i :: l => by simp [intL, D.okps, D.okp]; exact okps_ints l
theorem depth_ints : ∀ l : List Int, PyData.depthAll (D.pys (intL l)) ≤ 1
  | [] => by simp [intL, D.pys, PyData.depthAll]
  | i :: l => by
    have := depth_ints l
    simp only [intL, List.map_cons, D.pys, D.py, PyData.depthAll, PyData.depth]
    simp only [intL] at this
    omega
@[simp] theorem ok_ints (l : List Int) : (D.lst (intL l)).ok = true := by
  have := depth_ints l
  simp only [D.ok, D.okp, okps_ints, D.py, PyData.depth, Bool.true_and, decide_eq_true_eq]
  omega
@[simp] theorem ok_intsT (l : List Int) : (D.tup (intL l)).ok = true := by
  have := depth_ints l
  simp only [D.ok, D.okp, okps_ints, D.py, PyData.depth, Bool.true_and, decide_eq_true_eq]
  omega
theorem nats_eq (l : List Nat) : natL l = intL (l.map Int.ofNat) := by simp [natL, intL]
@[simp] theorem ok_nats (l : List Nat) : (D.lst (natL l)).ok = true := by rw [nats_eq]; exact ok_ints _
@[simp] theorem ok_natsT (l : List Nat) : (D.tup (natL l)).ok = true := by rw [nats_eq]; exact ok_intsT _
theorem eqvAll_ints : ∀ l l' : List Int, PyData.eqvAll (D.pys (intL l)) (D.pys (intL l')) = decide (l = l')
  | [], [] => by simp [intL, D.pys, PyData.eqvAll]
  | [], _ :: _ => by simp [intL, D.pys, PyData.eqvAll]
  | _ :: _, [] => by simp [intL, D.pys, PyData.eqvAll]
  | i :: l, j :: l' => by
    have := eqvAll_ints l l'
    simp only [intL] at this
    simp [intL, D.pys, PyData.eqvAll, this]
@[simp] theorem eqv_ints (l l' : List Int) : PyData.eqv (D.lst (intL l)).py (D.lst (intL l')).py = decide (l = l') := by
  simp only [D.py, PyData.eqv]; exact eqvAll_ints l l'
@[simp] theorem eqv_intsT (l l' : List Int) : PyData.eqv (D.tup (intL l)).py (D.tup (intL l')).py = decide (l = l') := by
  simp only [D.py, PyData.eqv]; exact eqvAll_ints l l'
theorem ofNat_inj (l l' : List Nat) : (l.map Int.ofNat = l'.map Int.ofNat) ↔ l = l' := by
  constructor
  · intro h
    have := congrArg (List.map Int.toNat) h
    simpa [List.map_map, Function.comp_def] using this
  · intro h; rw [h]
@[simp] theorem eqv_nats (l l' : List Nat) : PyData.eqv (D.lst (natL l)).py (D.lst (natL l')).py = decide (l = l') := by
  rw [nats_eq, nats_eq, eqv_ints]; simp only [ofNat_inj]
@[simp] theorem eqv_natsT (l l' : List Nat) : PyData.eqv (D.tup (natL l)).py (D.tup (natL l')).py = decide (l = l') := by
  rw [nats_eq, nats_eq, eqv_intsT]; simp only [ofNat_inj]
/-- a list against the empty one -/
@[simp] theorem ok_nil : (D.lst []).ok = true := ok_ints []
@[simp] theorem eqv_nil (ds : List D) : PyData.eqv (D.lst ds).py (D.lst []).py = ds.isEmpty := by
  cases ds <;> simp [D.py, D.pys, PyData.eqv, PyData.eqvAll]
@[simp] theorem intsD_ints : ∀ l : List Int, intsD (intL l) = some l
  | [] => rfl
  | i :: l => by
    have := intsD_ints l
    simp only [intL] at this
    simp [intL, intsD, this]
@[simp] theorem intsD_nats (l : List Nat) : intsD (natL l) = some (l.map Int.ofNat) := by rw [nats_eq]; exact intsD_ints _
@[simp] theorem blsD_map {α : Type} (l : List α) (f : α → Bool) : blsD (l.map fun a => D.bl (f a)) = some (l.map f) := by
  induction l with
  | nil => rfl
  | cons a l ih => simp [blsD, ih]
theorem atI_nat {α : Type} {xs : List α} {i : Nat} {x : α} (h : xs[i]? = some x) : atI xs (i : Int) = some x := by
  have hl := (List.getElem?_eq_some_iff.mp h).1
  unfold atI ixN
  simp [show ((i : Int) < xs.length) by omega, h]
theorem atI_last {α : Type} {xs : List α} {x : α} (h : xs.getLast? = some x) : atI xs (-1) = some x := by
  have hn : xs ≠ [] := fun z => by subst z; cases h
  have hl : 0 < xs.length := List.length_pos_iff.mpr hn
  unfold atI ixN
  rw [List.getLast?_eq_getElem?] at h
  have e : ((-1 : Int) + (xs.length : Int)).toNat = xs.length - 1 := by omega
  simp [show ¬ (0 : Int) ≤ -1 by omega]
  split
  · first | (rw [e]; exact h) | (simp; rw [show ((xs.length : Int) + -1).toNat = xs.length - 1 by omega]; exact h) | (simp; exact h)
  · omega
@[simp] theorem small_nat (n : Nat) (h : n < 1000000000) : small (n : Int) := by
  unfold small
  have : (1000000000 : Nat) < 2 ^ 400000 := Nat.lt_of_lt_of_le (by decide : 1000000000 < 2 ^ 30) (Nat.pow_le_pow_right (by decide) (by decide))
  omega
end DL
namespace DL
open PySem L2 Evl PySem.Spec PyProof.Rows LamX
/-! ### readings run over names that stand written out: each rule fires only there -/
def eVarA (o : Option (Option Sl)) (i : Nat) (δ : Env) (P : Sl → Env → Prop) : Prop := match o with
  | some (some (.fz d)) => P (.fz d) δ
  | some (some (.ow o)) => vw (.ow o) fun d => P (.fz d) (δ.set i (some (.fz d)))
  | _ => False
def eMvA (o : Option (Option Sl)) (i : Nat) (δ : Env) (P : Sl → Env → Prop) : Prop := match o with
  | some (some (.fz d)) => P (.fz d) δ
  | some (some (.ow (.lst ds))) => P (.ow (.lst ds)) (δ.set i none)
  | some (some (.ow (.dct ds))) => P (.ow (.dct ds)) (δ.set i none)
  | _ => False
def oBA (o : Option (Option Sl)) (i : Nat) (δ : Env) (P : Hd → Env → Prop) : Prop := match o with
  | some (some _) => P (.slot i) δ
  | _ => False
def rslA (o : Option (Option Sl)) (k : D → Prop) : Prop := match (match o with
    | some (some (.fz d)) => some d
    | some (some (.ow (.lst ds))) => some (.lst ds)
    | some (some (.ow (.dct ds))) => some (.dct ds)
    | _ => none : Option D) with
  | some d => k d
  | none => False
def callA (df : DF) (o : Option (List Sl)) (P : Sl → Prop) (X : DX → Prop) : Prop := match o with
  | some ss => df ss P X
  | none => False
def argA (o : Option (Option Sl)) (r : Option (List Sl)) : Option (List Sl) := match o with
  | some (some (.fz d)) => r.map (.fz d :: ·)
  | some (some (.ow .pen)) => match r with
    | some ss => if ss.any isPen then none else some (.ow .pen :: ss)
    | none => none
  | _ => none
def blA (r : Sl) (k : Bool → Prop) : Prop := match r with
  | .fz (.bl b) => k b
  | _ => False
def opA {α : Type} (o : Option α) (k : α → Prop) : Prop := match o with
  | some b => k b
  | none => False
def r1A (ds : List D) (k : List D → Prop) : Prop := match ds with
  | [.int j] => (-1000000000 ≤ j ∧ j ≤ 1000000000) ∧ k (rgD 0 j.toNat)
  | _ => False
def r2A (ds : List D) (k : List D → Prop) : Prop := match ds with
  | [.int i, .int j] => -1000000000 ≤ i ∧ i ≤ 1000000000 ∧ (-1000000000 ≤ j ∧ j ≤ 1000000000) ∧ k (rgD i (j - i).toNat)
  | _ => False
def fldA (cs : List Str) (f : Str) (d : D) (k : D → Prop) : Prop := match d with
  | .ins C fs => cs.contains C = true ∧ (match fs.lookup f with | some d' => k d' | none => False)
  | _ => False
def appA (o : Option (Option Sl)) (d : D) (i : Nat) (δ : Env) (P : Sl → Env → Prop) : Prop := match o with
  | some (some (.ow (.lst ds))) => ds.length < 100000 ∧ P (.fz .non) (δ.set i (some (.ow (.lst (ds ++ [d])))))
  | _ => False
def extA (o : Option (Option Sl)) (e : Option (List D)) (i : Nat) (δ : Env) (P : Sl → Env → Prop) : Prop := match o, e with
  | some (some (.ow (.lst ds))), some es => ds.length + es.length ≤ 100000 ∧ P (.fz .non) (δ.set i (some (.ow (.lst (ds ++ es)))))
  | _, _ => False
def popA (o : Option (Option Sl)) (i : Nat) (δ : Env) (P : Sl → Env → Prop) : Prop := match o with
  | some (some (.ow (.lst ds))) => match ds[ds.length - 1]? with
    | some d => P (.fz d) (δ.set i (some (.ow (.lst ds.dropLast))))
    | none => False
  | _ => False
def putA (o : Option (Option Sl)) (kd v : D) (i : Nat) (δ : Env) (P : Env → Prop) : Prop := match o with
  | some (some (.ow (.dct kvs))) => ∃ y, keyD kd = some y ∧ kvs.length < 100000 ∧ P (δ.set i (some (.ow (.dct (putD kvs y v)))))
  | _ => False
def penA (s : Option Sl) : Prop := match s with
  | some (.ow .pen) => False
  | _ => True
def isPn (s : Option Sl) : Bool := match s with
  | some (.ow .pen) => true
  | _ => false
section
variable {s : Option Sl} {δ : Env} {B : EndsD} {P : Sl → Env → Prop} {Q : Bool → Env → Prop} {X : DX → Prop} {g g1 g2 : GS} {e e1 e2 : GE} {c c1 c2 : GT} {a b a1 : GO} {gs : GA} {op op2 : Op2} {op1 : Op1} {opn : OpN} {i n : Nat} {d : D} {ds xs : List D} {k : D → Prop} {df : DF} {R : Hd → Env → Prop} {Rs : List Hd → Env → Prop} {gi : GI} {gg : GG} {vs vs1 : List Nat} {gi1 : GI} {gg1 : GG}
@[simp] theorem v_nil : sNil (s :: δ) B = B.nx (s :: δ) := rfl
@[simp] theorem v_seq : sSeq g1 g2 (s :: δ) B = g1 (s :: δ) ⟨fun δ' => g2 δ' B, B.rt, B.bk, B.ct, B.ex⟩ := rfl
@[simp] theorem v_ret : sRet e (s :: δ) B = e (s :: δ) (fun r _ => B.rt r) B.ex := rfl
@[simp] theorem v_retN : sRetN (s :: δ) B = B.rt (.fz .non) := rfl
@[simp] theorem v_if : sIf c g1 g2 (s :: δ) B = c (s :: δ) (fun t δ1 => if t = true then g1 δ1 B else g2 δ1 B) B.ex := rfl
@[simp] theorem v_set : sSet i e (s :: δ) B = e (s :: δ) (fun r δ' => notPen δ' i ∧ B.nx (δ'.set i (some r))) B.ex := rfl
@[simp] theorem v_drop : sDrop e (s :: δ) B = e (s :: δ) (fun _ δ' => B.nx δ') B.ex := rfl
@[simp] theorem v_mv : eMv i (s :: δ) P X = eMvA (s :: δ)[i]? i (s :: δ) P := rfl
@[simp] theorem v_mv1 : eMvA (some (some (.fz d))) i δ P = P (.fz d) δ := rfl
@[simp] theorem v_mv2 : eMvA (some (some (.ow (.lst ds)))) i δ P = P (.ow (.lst ds)) (δ.set i none) := rfl
@[simp] theorem v_mv3 {kvs : List (D × D)} : eMvA (some (some (.ow (.dct kvs)))) i δ P = P (.ow (.dct kvs)) (δ.set i none) := rfl
@[simp] theorem v_var : eVar i (s :: δ) P X = eVarA (s :: δ)[i]? i (s :: δ) P := rfl
@[simp] theorem v_var1 : eVarA (some (some (.fz d))) i δ P = P (.fz d) δ := rfl
@[simp] theorem v_var2 : eVarA (some (some (.ow (.lst ds)))) i δ P = P (.fz (.lst ds)) (δ.set i (some (.fz (.lst ds)))) := rfl
@[simp] theorem v_var3 {kvs : List (D × D)} : eVarA (some (some (.ow (.dct kvs)))) i δ P = P (.fz (.dct kvs)) (δ.set i (some (.fz (.dct kvs)))) := rfl
@[simp] theorem v_c : eC d (s :: δ) P X = P (.fz d) (s :: δ) := rfl
@[simp] theorem v_bin : eBin op a b (s :: δ) P X = a (s :: δ) (fun h1 δ1 => b δ1 (fun h2 δ2 => rsl h1 δ2 fun d1 => rsl h2 δ2 fun d2 => op d1 d2 fun r => P r δ2) X) X := rfl
@[simp] theorem v_un : eUn op1 a (s :: δ) P X = a (s :: δ) (fun h1 δ1 => rsl h1 δ1 fun d1 => op1 d1 fun r => P r δ1) X := rfl
@[simp] theorem v_ca : eCa opn gs (s :: δ) P X = gs (s :: δ) (fun hs δ1 => rsls hs δ1 fun ds => opn ds fun r => P r δ1) X := rfl
@[simp] theorem v_call : eCallN n df gs (s :: δ) P X = gs (s :: δ) (fun hs δ1 => hs.length = n ∧ callA df (argS hs δ1) (fun r => P r δ1) X) X := rfl
@[simp] theorem v_call1 {ss : List Sl} {P : Sl → Prop} : callA df (some ss) P X = df ss P X := rfl
@[simp] theorem v_arg0 : argS [] δ = some [] := rfl
@[simp] theorem v_arg1 {hs : List Hd} : argS (.fix d :: hs) δ = (argS hs δ).map (.fz d :: ·) := rfl
@[simp] theorem v_arg2 {hs : List Hd} : argS (.slot i :: hs) (s :: δ) = argA (s :: δ)[i]? (argS hs (s :: δ)) := rfl
@[simp] theorem v_arg3 {r : Option (List Sl)} : argA (some (some (.fz d))) r = r.map (.fz d :: ·) := rfl
@[simp] theorem v_arg4 {ss : List Sl} : argA (some (some (.ow .pen))) (some ss) = if ss.any isPen then none else some (.ow .pen :: ss) := rfl
@[simp] theorem v_pen1 : isPen (.fz d) = false := rfl
@[simp] theorem v_pen2 : isPen (.ow .pen) = true := rfl
@[simp] theorem v_pen3 {ds : List D} : isPen (.ow (.lst ds)) = false := rfl
@[simp] theorem v_pen4 {ds : List (D × D)} : isPen (.ow (.dct ds)) = false := rfl
@[simp] theorem v_tup : eTup gs (s :: δ) P X = gs (s :: δ) (fun hs δ1 => rfx hs fun ds => ds.length ≤ 100000 ∧ P (.fz (.tup ds)) δ1) X := rfl
@[simp] theorem v_lst : eLst gs (s :: δ) P X = gs (s :: δ) (fun hs δ1 => rfx hs fun ds => ds.length ≤ 100000 ∧ P (.ow (.lst ds)) δ1) X := rfl
@[simp] theorem v_dct : eDct0 (s :: δ) P X = P (.ow (.dct [])) (s :: δ) := rfl
@[simp] theorem v_rfx0 {k : List D → Prop} : rfx [] k = k [] := rfl
@[simp] theorem v_rfx1 {hs : List Hd} {k : List D → Prop} : rfx (.fix d :: hs) k = rfx hs fun ds => k (d :: ds) := rfl
@[simp] theorem v_oE : oE e (s :: δ) R X = e (s :: δ) (fun r δ' => vw r fun d => R (.fix d) δ') X := rfl
@[simp] theorem v_oB : oB i (s :: δ) R X = oBA (s :: δ)[i]? i (s :: δ) R := rfl
@[simp] theorem v_oB1 {x : Sl} : oBA (some (some x)) i δ R = R (.slot i) δ := rfl
@[simp] theorem v_aNil : aNil (s :: δ) Rs X = Rs [] (s :: δ) := rfl
@[simp] theorem v_aCons : aCons a gs (s :: δ) Rs X = a (s :: δ) (fun h δ1 => gs δ1 (fun hs δ2 => Rs (h :: hs) δ2) X) X := rfl
@[simp] theorem v_rsl1 : rsl (.fix d) δ k = k d := rfl
@[simp] theorem v_rsl2 : rsl (.slot i) (s :: δ) k = rslA (s :: δ)[i]? k := rfl
@[simp] theorem v_rsl3 : rslA (some (some (.fz d))) k = k d := rfl
@[simp] theorem v_rsl4 : rslA (some (some (.ow (.lst ds)))) k = k (.lst ds) := rfl
@[simp] theorem v_rsl5 {kvs : List (D × D)} : rslA (some (some (.ow (.dct kvs)))) k = k (.dct kvs) := rfl
@[simp] theorem v_rsls0 {k : List D → Prop} : rsls [] δ k = k [] := rfl
@[simp] theorem v_rsls1 {h : Hd} {hs : List Hd} {k : List D → Prop} : rsls (h :: hs) (s :: δ) k = rsl h (s :: δ) fun d => rsls hs (s :: δ) fun ds => k (d :: ds) := rfl
@[simp] theorem v_vw1 : vw (.fz d) k = k d := rfl
@[simp] theorem v_vw2 : vw (.ow (.lst ds)) k = k (.lst ds) := rfl
@[simp] theorem v_vw3 {kvs : List (D × D)} : vw (.ow (.dct kvs)) k = k (.dct kvs) := rfl
@[simp] theorem v_gV : gV e (s :: δ) Q X = e (s :: δ) (fun r δ' => blA r fun t => Q t δ') X := by
  unfold gV
  congr 1
@[simp] theorem v_bl {t : Bool} {k : Bool → Prop} : blA (.fz (.bl t)) k = k t := rfl
@[simp] theorem v_gTr : gTr e (s :: δ) Q X = e (s :: δ) (fun r δ' => vw r fun d => opA (truD d) fun t => Q t δ') X := by
  unfold gTr; congr 1; funext r δ'; congr 1; funext d; cases truD d <;> rfl
@[simp] theorem v_op {α : Type} {x : α} {k : α → Prop} : opA (some x) k = k x := rfl
@[simp] theorem v_gAnd : gAnd c1 c2 (s :: δ) Q X = c1 (s :: δ) (fun t δ1 => if t = true then c2 δ1 Q X else Q false δ1) X := rfl
@[simp] theorem v_gOr : gOr c1 c2 (s :: δ) Q X = c1 (s :: δ) (fun t δ1 => if t = true then Q true δ1 else c2 δ1 Q X) X := rfl
@[simp] theorem v_gNot : gNot c (s :: δ) Q X = c (s :: δ) (fun t δ1 => Q (!t) δ1) X := rfl
@[simp] theorem v_eAnd : eAnd e1 e2 (s :: δ) P X = e1 (s :: δ) (fun r δ1 => blA r fun t => if t = true then e2 δ1 P X else P (.fz (.bl false)) δ1) X := rfl
@[simp] theorem v_eOr : eOr e1 e2 (s :: δ) P X = e1 (s :: δ) (fun r δ1 => blA r fun t => if t = true then P (.fz (.bl true)) δ1 else e2 δ1 P X) X := rfl
@[simp] theorem v_eNot : eNot e (s :: δ) P X = e (s :: δ) (fun r δ1 => blA r fun t => P (.fz (.bl (!t))) δ1) X := rfl
@[simp] theorem v_eIf : eIf c e1 e2 (s :: δ) P X = c (s :: δ) (fun t δ1 => if t = true then e1 δ1 P X else e2 δ1 P X) X := rfl
@[simp] theorem v_chain : eChain op op2 a b a1 (s :: δ) P X = a (s :: δ) (fun h1 δ1 => b δ1 (fun h2 δ2 => rsl h1 δ2 fun d1 => rsl h2 δ2 fun d2 => op d1 d2 fun z => blA z fun t => if t = true then a1 δ2 (fun h3 δ3 => rsl h2 δ3 fun d2 => rsl h3 δ3 fun d3 => op2 d2 d3 fun r => P r δ3) X else P (.fz (.bl false)) δ2) X) X := rfl
@[simp] theorem v_np0 : notPen (s :: δ) 0 = penA s := by unfold notPen penA; simp; cases s with
  | none => rfl
  | some s => cases s with
    | fz d => rfl
    | ow o => cases o <;> rfl
@[simp] theorem v_np1 : notPen (s :: δ) (i + 1) = notPen δ i := by unfold notPen; simp
@[simp] theorem v_npa0 : penA none = True := rfl
@[simp] theorem v_npa1 : penA (some (.fz d)) = True := rfl
@[simp] theorem v_npa2 : penA (some (.ow (.lst ds))) = True := rfl
@[simp] theorem v_npa3 {kvs : List (D × D)} : penA (some (.ow (.dct kvs))) = True := rfl
@[simp] theorem v_iE {K : List D → Env → Prop} : iE e (s :: δ) K X = e (s :: δ) (fun r δ' => vw r fun d => opA (itms d) fun ds => K ds δ') X := by
  unfold iE; congr 1; funext r δ'; congr 1; funext d; cases itms d <;> rfl
@[simp] theorem v_iR1 {K : List D → Env → Prop} : iR1 gs (s :: δ) K X = gs (s :: δ) (fun hs δ' => rsls hs δ' fun ds => r1A ds fun es => K es δ') X := rfl
@[simp] theorem v_iR2 {K : List D → Env → Prop} : iR2 gs (s :: δ) K X = gs (s :: δ) (fun hs δ' => rsls hs δ' fun ds => r2A ds fun es => K es δ') X := rfl
@[simp] theorem v_r1 {j : Int} {k : List D → Prop} : r1A [.int j] k = ((-1000000000 ≤ j ∧ j ≤ 1000000000) ∧ k (rgD 0 j.toNat)) := rfl
@[simp] theorem v_r2 {i j : Int} {k : List D → Prop} : r2A [.int i, .int j] k = (-1000000000 ≤ i ∧ i ≤ 1000000000 ∧ (-1000000000 ≤ j ∧ j ≤ 1000000000) ∧ k (rgD i (j - i).toNat)) := rfl
@[simp] theorem v_gNm {K : Env → Prop} : gNm i d (s :: δ) K = (notPen (s :: δ) i ∧ K ((s :: δ).set i (some (.fz d)))) := rfl
@[simp] theorem v_gTp {n : Nat} {gs : GGs} {K : Env → Prop} : gTp n gs (.tup ds) δ K = (ds.length = n ∧ gs ds δ K) := rfl
@[simp] theorem v_ggN {K : Env → Prop} : ggNil [] δ K = K δ := rfl
@[simp] theorem v_ggC {gs : GGs} {K : Env → Prop} : ggCons gg gs (d :: ds) δ K = gg d δ fun δ1 => gs ds δ1 K := rfl
@[simp] theorem v_for : sFor gi gg g (s :: δ) B = gi (s :: δ) (fun ds δ1 => forD gg g ds δ1 B) B.ex := rfl
@[simp] theorem v_lc : eLc gi gg c e vs (s :: δ) P X = gi (s :: δ) (fun ds δ1 => npOk δ1 vs ∧ ds.length ≤ 100000 ∧ lcD gg c e vs ds (wipeD δ1 vs) fun ys δ2 => P (.ow (.lst ys)) δ2) X := rfl
@[simp] theorem v_lc2 : eLc2 gi gg c gi1 gg1 c1 e vs vs1 (s :: δ) P X = gi (s :: δ) (fun ds δ1 => npOk δ1 vs ∧ lcD2 gg c gi1 gg1 c1 e vs vs1 ds 0 (wipeD δ1 vs) fun ys δ2 => P (.ow (.lst ys)) δ2) X := rfl
@[simp] theorem v_npk0 : npOk (s :: δ) [] = True := rfl
@[simp] theorem v_npk1 {v : Nat} : npOk (s :: δ) (v :: vs) = (notPen (s :: δ) v ∧ npOk (s :: δ) vs) := rfl
@[simp] theorem v_wp0 : wipeD (s :: δ) [] = (s :: δ) := rfl
@[simp] theorem v_wp1 {v : Nat} : wipeD (s :: δ) (v :: vs) = (wipeD (s :: δ) vs).set v none := rfl
@[simp] theorem v_yes : tYesD (s :: δ) Q X = Q true (s :: δ) := rfl
@[simp] theorem v_el {k : Option D → Env → Prop} : lcEl gg c e vs d (s :: δ) k = gg d (s :: δ) fun δ2 => c δ2 (fun t δ3 => if t = true then e δ3 (fun r δ4 => vw r fun y => npOk δ4 vs ∧ k (some y) (wipeD δ4 vs)) noX else npOk δ3 vs ∧ k none (wipeD δ3 vs)) noX := rfl
@[simp] theorem v_fld {cs : List Str} {f : Str} : eFld cs f e (s :: δ) P X = e (s :: δ) (fun r δ' => vw r fun d => fldA cs f d fun d' => P (.fz d') δ') X := by
  unfold eFld fldA
  congr 1
@[simp] theorem v_fld1 {cs : List Str} {f C : Str} {fs : List (Str × D)} : fldA cs f (.ins C fs) k = (cs.contains C = true ∧ opA (fs.lookup f) k) := by
  unfold fldA; cases hl : fs.lookup f <;> simp [opA, hl]
@[simp] theorem v_make : eMake n df gs (s :: δ) P X = gs (s :: δ) (fun hs δ1 => rfx hs fun ds => ds.length = n ∧ df (ds.map .fz) (fun r => P r δ1) X) X := rfl
@[simp] theorem v_app : mApp i e (s :: δ) P X = ((∃ ds, (s :: δ)[i]? = some (some (.ow (.lst ds)))) ∧ e (s :: δ) (fun r δ1 => vw r fun d => appA δ1[i]? d i δ1 P) X) := by
  unfold mApp appA; rfl
@[simp] theorem v_app1 : appA (some (some (.ow (.lst ds)))) d i δ P = (ds.length < 100000 ∧ P (.fz .non) (δ.set i (some (.ow (.lst (ds ++ [d])))))) := rfl
@[simp] theorem v_ext : mExt i e (s :: δ) P X = ((∃ ds, (s :: δ)[i]? = some (some (.ow (.lst ds)))) ∧ e (s :: δ) (fun r δ1 => vw r fun d => extA δ1[i]? (seqD d) i δ1 P) X) := by
  unfold mExt extA; rfl
@[simp] theorem v_ext1 {es : List D} : extA (some (some (.ow (.lst ds)))) (some es) i δ P = (ds.length + es.length ≤ 100000 ∧ P (.fz .non) (δ.set i (some (.ow (.lst (ds ++ es)))))) := rfl
@[simp] theorem v_pop : mPop i (s :: δ) P X = popA (s :: δ)[i]? i (s :: δ) P := rfl
@[simp] theorem v_pop1 : popA (some (some (.ow (.lst (ds ++ [d]))))) i δ P = P (.fz d) (δ.set i (some (.ow (.lst ds)))) := by
  unfold popA; simp
@[simp] theorem v_put {gk gv : GE} : sPut i gk gv (s :: δ) B = gv (s :: δ) (fun r δ1 => vw r fun v => (∃ kvs, δ1[i]? = some (some (.ow (.dct kvs)))) ∧ gk δ1 (fun r δ2 => vw r fun kd => putA δ2[i]? kd v i δ2 B.nx) B.ex) B.ex := by
  unfold sPut putA; rfl
@[simp] theorem v_par {i j : Nat} {ga gb : GE} : sPar2 i j ga gb (s :: δ) B = ga (s :: δ) (fun r1 δ1 => gb δ1 (fun r2 δ2 => (isPen r1 = false ∧ notPen δ2 i ∧ notPen (δ2.set i (some r1)) j) ∧ B.nx ((δ2.set i (some r1)).set j (some r2))) B.ex) B.ex := rfl
@[simp] theorem v_raise {cls : Str} {fs : List Str} : sRaise cls fs gs (s :: δ) B = gs (s :: δ) (fun hs δ1 => rfx hs fun ds => ds.length = fs.length ∧ B.ex ⟨cls, (fs.zip ds).reverse⟩) B.ex := rfl
@[simp] theorem v_put1 {kvs : List (D × D)} {kd v : D} {K : Env → Prop} : putA (some (some (.ow (.dct kvs)))) kd v i δ K = ∃ y, keyD kd = some y ∧ kvs.length < 100000 ∧ K (δ.set i (some (.ow (.dct (putD kvs y v))))) := rfl
end
/-! ### operators by kinds -/
section
variable {i j : Int} {x y : List D} {kvs : List (D × D)} {k : Sl → Prop} {s t : Str} {b c : Bool} {d : D} {neg : Bool} {p : Int → Int → Bool}
@[simp] theorem o_tru0 : truD .non = some false := rfl
@[simp] theorem o_tru1 : truD (.bl b) = some b := rfl
@[simp] theorem o_tru2 : truD (.int i) = some (i != 0) := rfl
@[simp] theorem o_tru3 : truD (.tup x) = some (!x.isEmpty) := rfl
@[simp] theorem o_tru4 : truD (.lst x) = some (!x.isEmpty) := rfl
@[simp] theorem o_add1 : dAdd (.int i) (.int j) k = k (.fz (.int (i + j))) := rfl
@[simp] theorem o_add2 : dAdd (.tup x) (.tup y) k = (x.length + y.length ≤ 1000000 ∧ k (.fz (.tup (x ++ y)))) := rfl
@[simp] theorem o_add3 : dAdd (.lst x) (.lst y) k = (x.length + y.length ≤ 1000000 ∧ k (.ow (.lst (x ++ y)))) := rfl
@[simp] theorem o_sub : dSub (.int i) (.int j) k = k (.fz (.int (i - j))) := rfl
@[simp] theorem o_mul1 : dMul (.int i) (.int j) k = (small i ∧ small j ∧ k (.fz (.int (i * j)))) := rfl
@[simp] theorem o_mul2 : dMul (.lst x) (.int j) k = (0 ≤ j ∧ j ≤ 100000 ∧ x.length * j.toNat ≤ 1000000 ∧ k (.ow (.lst (List.replicate j.toNat x).flatten))) := rfl
@[simp] theorem o_neg : dNeg (.int i) k = k (.fz (.int (-i))) := rfl
@[simp] theorem o_cmp : dCmp p (.int i) (.int j) k = k (.fz (.bl (p i j))) := rfl
@[simp] theorem o_ix1 : dIx (.lst x) (.int i) k = ∃ d, atI x i = some d ∧ k (.fz d) := rfl
@[simp] theorem o_ix2 : dIx (.tup x) (.int i) k = ∃ d, atI x i = some d ∧ k (.fz d) := rfl
@[simp] theorem o_key1 : keyD (.int i) = some (.inl i) := rfl
@[simp] theorem o_key2 : keyD (.str s) = some (.inr s) := rfl
@[simp] theorem o_in1 : dIn2 neg (.int i) (.dct kvs) k = k (.fz (.bl (xor neg (hasD kvs (.inl i))))) := rfl
@[simp] theorem o_in2 : dIn2 neg d (.lst x) k = (d.ok = true ∧ (D.lst x).ok = true ∧ k (.fz (.bl (xor neg (x.any fun z => PyData.eqv z.py d.py))))) := rfl
@[simp] theorem o_in3 : dIn2 neg d (.tup x) k = (d.ok = true ∧ (D.tup x).ok = true ∧ k (.fz (.bl (xor neg (x.any fun z => PyData.eqv z.py d.py))))) := rfl
@[simp] theorem o_isN : dIsN neg d .non k = k (.fz (.bl (xor neg d.isNon))) := rfl
@[simp] theorem o_isB : dIsB neg d (.bl c) k = k (.fz (.bl (xor neg (d.isBl c)))) := rfl
@[simp] theorem o_non1 : D.non.isNon = true := rfl
@[simp] theorem o_non2 : (D.int i).isNon = false := rfl
@[simp] theorem o_non3 : (D.bl b).isNon = false := rfl
@[simp] theorem o_non4 : (D.tup x).isNon = false := rfl
@[simp] theorem o_non5 : (D.lst x).isNon = false := rfl
@[simp] theorem o_non6 : (D.str s).isNon = false := rfl
@[simp] theorem o_bl1 : (D.bl b).isBl c = decide (b = c) := rfl
@[simp] theorem o_bl2 : (D.int i).isBl c = false := rfl
@[simp] theorem o_bl3 : D.non.isBl c = false := rfl
@[simp] theorem o_bl4 : (D.tup x).isBl c = false := rfl
@[simp] theorem o_bl5 : (D.lst x).isBl c = false := rfl
@[simp] theorem o_bl6 : (D.str s).isBl c = false := rfl
@[simp] theorem o_len1 : nLen [.lst x] k = k (.fz (.int x.length)) := rfl
@[simp] theorem o_len2 : nLen [.tup x] k = k (.fz (.int x.length)) := rfl
@[simp] theorem o_len3 : nLen [.dct kvs] k = k (.fz (.int kvs.length)) := rfl
@[simp] theorem o_list1 : nList [.lst x] k = k (.ow (.lst x)) := rfl
@[simp] theorem o_list2 : nList [.tup x] k = k (.ow (.lst x)) := rfl
@[simp] theorem o_list3 : nList [.dct kvs] k = k (.ow (.lst (kvs.map (·.1)))) := rfl
@[simp] theorem o_tup1 : nTup [.lst x] k = k (.fz (.tup x)) := rfl
@[simp] theorem o_tup2 : nTup [.tup x] k = k (.fz (.tup x)) := rfl
@[simp] theorem o_sum : nSum [.lst x] k = ∃ ns, intsD x = some ns ∧ k (.fz (.int ns.sum)) := rfl
@[simp] theorem o_all : nAll [.lst x] k = ∃ ns, blsD x = some ns ∧ k (.fz (.bl (ns.all id))) := rfl
@[simp] theorem o_any : nAny [.lst x] k = ∃ ns, blsD x = some ns ∧ k (.fz (.bl (ns.any id))) := rfl
@[simp] theorem o_seq1 : seqD (.lst x) = some x := rfl
@[simp] theorem o_seq2 : seqD (.tup x) = some x := rfl
@[simp] theorem o_sset : nSSet [d] k = ∃ xs ns, seqD d = some xs ∧ intsD xs = some ns ∧ ns.length < 64 ∧ ∀ ns' : List Int, ns'.Pairwise (· < ·) → (∀ i, i ∈ ns' ↔ i ∈ ns) → k (.ow (.lst (ns'.map D.int))) := rfl
@[simp] theorem o_dict : nDict [.lst x] k = ∃ ps, pairsD x = some ps ∧ k (.ow (.dct (mergeD [] ps))) := rfl
@[simp] theorem o_draw {m : Int} {X : DX → Prop} : df_draw [.ow .pen, .fz (.int m)] k X = (0 < m ∧ m ≤ 1000000000 ∧ ∀ r : Int, 0 ≤ r → r < m → k (.fz (.int r))) := rfl
@[simp] theorem o_eq : dEq d d k = (d.ok = true ∧ d.ok = true ∧ k (.fz (.bl (PyData.eqv d.py d.py)))) := rfl
@[simp] theorem o_isi1 {cs : List Str} {l : List D} : nIsi cs [d, .tup l] k = (insIn cs d = true ∧ (l.isEmpty = false ∧ l.all (clsIn cs) = true) ∧ opA (isiL d l) fun b => k (.fz (.bl b))) := by
  unfold nIsi; show (_ ∧ _ ∧ _) = _; congr 2; cases isiL d l <;> rfl
@[simp] theorem o_isi2 {cs : List Str} {n : String} : nIsi cs [d, .ty n] k = (insIn cs d = true ∧ clsIn cs (.ty n) = true ∧ opA (isi1 d (.ty n)) fun b => k (.fz (.bl b))) := by
  unfold nIsi; show (_ ∧ _ ∧ _) = _; congr 2; cases isi1 d (.ty n) <;> rfl
@[simp] theorem o_isi3 {cs : List Str} {n : Str} : nIsi cs [d, .top n] k = (insIn cs d = true ∧ clsIn cs (.top n) = true ∧ opA (isi1 d (.top n)) fun b => k (.fz (.bl b))) := by
  unfold nIsi; show (_ ∧ _ ∧ _) = _; congr 2; cases isi1 d (.top n) <;> rfl
theorem u_eq {e : D} : dEq d e k = (d.ok = true ∧ e.ok = true ∧ k (.fz (.bl (PyData.eqv d.py e.py)))) := rfl
theorem u_ne {e : D} : dNe d e k = (d.ok = true ∧ e.ok = true ∧ k (.fz (.bl (!PyData.eqv d.py e.py)))) := rfl
@[simp] theorem itms_lst (ds : List D) : itms (.lst ds) = some ds := rfl
@[simp] theorem itms_tup (ds : List D) : itms (.tup ds) = some ds := rfl
@[simp] theorem itms_scr (ns : List Int) : itms (.scr ns) = some (ns.map D.int) := rfl
end
end DL
namespace DL
open PySem L2 Evl PySem.Spec PyProof.Rows LamX
/-! ### x += e -/
def sAug (i : Nat) (f : Int → Int → Int) (g : GE) : GS := fun δ B => ∃ a, δ[i]? = some (some (.fz (.int a))) ∧ g δ (fun r δ1 => vw r fun d => match d with
  | .int b => notPen δ1 i ∧ B.nx (δ1.set i (some (.fz (.int (f a b)))))
  | _ => False) B.ex
section
variable {X : Cx} {A : Am} {E : XK} {i : Nat} {x : Str} {e : Expr} {g : GE} {pos pos' : Pos} {op : Operator} {f : Int → Int → Int}
theorem ds_aug (hN : X.N.Nodup) (hi : X.N[i]? = some x) (hx : Loc X.env.scope x) (he : PE X e (tE A E g)) (ho : PIp X op (ipI f)) (hf : X.fn x = true ∨ X.env.scope.names.lookup x = some .local := by first | exact .inl rfl | exact .inr rfl | assumption) :
    PS X (.AugAssign (.Name x pos') op e pos) (tS A E (sAug i f g)) :=
  ps_weak (ps_aug hN hi hx he ho hf) fun D σ H ⟨F, δ, B, S, ⟨a, h0, q⟩, kn, kb, kc, kr, kx⟩ => by
    obtain ⟨v0, e0, r0⟩ := S.sl i _ h0
    cases r0
    refine ⟨_, e0, F, δ, _, _, S, q, fun r δ1 F1 H1 v q1 S1 f1 R => ?_, kx⟩
    obtain ⟨F2, dd, _, S2, f2, hr2, q2⟩ := frz_tmp S1 f1 R rfl q1
    cases hr2 with
    | int b =>
      obtain ⟨np, q3⟩ := q2
      refine ⟨_, _, rfl, rfl, ?_⟩
      obtain ⟨S3, f3⟩ := S2.put (r := .fz (.int (f a b))) (v := .int (f a b)) f2 (.int _) np
      exact kn _ _ _ _ q3 S3 f3
    | _ => exact (q2 : False).elim
end
/-! ### xs.pop(i), of a list that a name owns -/
def mPopA (i : Nat) (g : GE) : GE := fun δ P X => (∃ ds, δ[i]? = some (some (.ow (.lst ds)))) ∧ g δ (fun r δ1 => vw r fun d => match δ1[i]?, d with
  | some (some (.ow (.lst ds))), .int n => ∃ k y, (0 ≤ n ∧ n < 1000000000) ∧ n = ((k : Nat) : Int) ∧ ds[k]? = some y ∧ P (.fz y) (δ1.set i (some (.ow (.lst (ds.eraseIdx k)))))
  | _, _ => False) X
theorem Reps.erase {A : Am} {F : Hp} : ∀ {ds : List D} {vs : List V} (k : Nat), Reps A F ds vs → Reps A F (ds.eraseIdx k) (vs.eraseIdx k)
  | _, _, _, .nil => .nil
  | _, _, 0, .cons _ r => r
  | _, _, k + 1, .cons h r => .cons h (Reps.erase k r)
theorem seqIx_nat {n k : Nat} (h : k < n) : seqIndex? (k : Int) n = some k := (ixN_seq (show ixN n (k : Int) = some k by unfold ixN; simp [show ((k : Int) < n) by omega])).1
section
variable {X : Cx} {A : Am} {E : XK} {i : Nat} {x : Str} {e : Expr} {g : GE} {p apos cpos : Pos}
theorem de_popA (ho : PE X (.Name x p) (tVar i)) (he : PE X e (tE A E g))
    (hbase : attributeBase (.Name x p) "pop" X.env (eval (.Name x p) X.env) = eval (.Name x p) X.env := by rfl)
    (hfew : ((backTo cpos (starEach [e] X.env)).all (fun x => !x.1) && (backToKw cpos (keywordEach [] X.env)).all (fun x => x.1.isSome)
      && decide (([e] : List Expr).length + ([] : List Keyword).length + (if ([] : List Keyword).isEmpty then 0 else 1) < 30)) = true := by rfl)
    (hline : (apos.endLine == cpos.line) = true := by rfl) (hs : starEach [e] X.env = (false, eval e X.env) :: starEach [] X.env := by rfl) (hplain : (backTo cpos (starEach [] X.env)).any (·.1) = false := by rfl) :
    PE X (.Call (.Attribute (.Name x p) "pop" apos) [e] [] cpos) (tE A E (mPopA i g)) :=
  pe_weak (pe_bm F.plainAttrs_list F.slot_list_pop F.type_list_pop mt_popAt ho (pa_cons he pa_nil hs) hbase hfew hline hs hplain) fun σ H Q ⟨F, δ, P, Z, S, ⟨⟨ds0, hi0⟩, q⟩, k, kx⟩ => by
    obtain ⟨a, vs, ha, hH, hr, hf⟩ := S.lst hi0
    refine ⟨.ref a, ha, .inl ⟨rfl, vs, sq_of hH⟩, F, δ, _, Z, S, q, fun r δ1 F1 H1 v q1 S1 f1 R => ?_, kx⟩
    obtain ⟨F2, dd, _, S2, f2, hr2, q2⟩ := frz_tmp S1 f1 R rfl q1
    split at q2
    · rename_i ds n hi
      obtain ⟨kk, y, ⟨n0, n1⟩, en, hy, q3⟩ := q2
      subst en
      cases hr2
      obtain ⟨a2, vs2, ha2, hH2, hr3, hf2⟩ := S2.lst hi
      rw [ha] at ha2; cases ha2
      obtain ⟨u, hu, hru⟩ := hr3.get hy
      have hlt := (List.getElem?_eq_some_iff.mp hu).1
      obtain ⟨S3, f3⟩ := S2.wrL hi ha hH2 hf2 (hr3.erase kk)
      exact ⟨a, vs2, _, kk, u, rfl, rfl, hH2, by omega, by omega, seqIx_nat hlt, hu, k _ _ _ _ _ q3 S3 (f2.trans f3) hru⟩
    · exact q2.elim
end
/-! ### xs[k] = v, of a list that a name owns -/
def sPutL (i : Nat) (gk gv : GE) : GS := fun δ B => gv δ (fun r δ1 => vw r fun v => (∃ ds, δ1[i]? = some (some (.ow (.lst ds)))) ∧ gk δ1 (fun r δ2 => vw r fun kd => match δ2[i]?, kd with
  | some (some (.ow (.lst ds))), .int n => ∃ k : Nat, n = (k : Int) ∧ k < ds.length ∧ B.nx (δ2.set i (some (.ow (.lst (ds.set k v)))))
  | _, _ => False) B.ex) B.ex
theorem Reps.setk {A : Am} {F : Hp} {d : D} {v : V} (hd : Rep A F d v) : ∀ {ds : List D} {vs : List V} (k : Nat), Reps A F ds vs → Reps A F (ds.set k d) (vs.set k v)
  | _, _, _, .nil => .nil
  | _, _, 0, .cons _ r => .cons hd r
  | _, _, k + 1, .cons h r => .cons h (Reps.setk hd k r)
section
variable {X : Cx} {A : Am} {E : XK} {i : Nat} {x : Str} {p pos pos' : Pos} {ek ev : Expr} {gk gv : GE}
theorem ds_putL (ho : PE X (.Name x p) (tVar i)) (hk : PE X ek (tE A E gk)) (hv : PE X ev (tE A E gv)) (hs : swapsWithSole [.Subscript (.Name x p) ek pos'] ev pos.line X.env = pure false := by rfl) (hw : swappedStores [.Subscript (.Name x p) ek pos'] ev X.env = pure none := by rfl)
    (ha : ∀ v, assign (.Subscript (.Name x p) ek pos') X.env v = (do
      let ov ← holding [v] (eval (.Name x p) X.env)
      let iv ← holding [v, ov] (eval ek X.env)
      standAt pos'
      holding [v, ov, iv] (setItem ov iv v)
      release [v, ov, iv] []) := by intro _; rfl)
    (h1 : (assignEach [.Subscript (.Name x p) ek pos'] X.env).map (·.2) = [assign (.Subscript (.Name x p) ek pos') X.env] := by rfl) :
    PS X (.Assign [.Subscript (.Name x p) ek pos'] ev pos) (tS A E (sPutL i gk gv)) :=
  ps_weak (ps_asg hv (pg_sub ho hk set_list ha) hs hw h1) fun D σ H ⟨F, δ, B, S, q, kn, kb, kc, kr, kx⟩ => ⟨F, δ, _, _, S, q, fun r δ1 F1 H1 v q1 S1 f1 R => by
    obtain ⟨F2, dd, _, S2, f2, hr2, ⟨ds0, hi0⟩, q2⟩ := frz_tmp S1 f1 R rfl q1
    obtain ⟨a, vs, ha, hH, hr, hf⟩ := S2.lst hi0
    refine ⟨_, ha, F2, δ1, _, _, S2, q2, fun r δ3 F3 H3 w q3 S3 f3 R3 => ?_, fun x _ _ _ _ z er => kx x _ _ _ _ z (er.back f2)⟩
    obtain ⟨F4, kd, le4, S4, f4, hr4, q4⟩ := frz_tmp S3 f3 R3 rfl q3
    split at q4
    · rename_i ds n hi
      obtain ⟨kk, en, hlt, q5⟩ := q4
      subst en
      cases hr4
      obtain ⟨a2, vs2, ha2, hH2, hr3, hf2⟩ := S4.lst hi
      rw [ha] at ha2; cases ha2
      have hrv : Rep A F4 dd v := hr2.mono f4.up
      have hl := hr3.length
      obtain ⟨S5, f5⟩ := S4.wrL hi ha hH2 hf2 (hr3.setk hrv kk)
      refine ⟨a, vs2, _, kk, rfl, rfl, hH2, by unfold ixN; simp [show ((kk : Int) < vs2.length) by omega], ?_⟩
      exact kn _ _ _ _ q5 S5 ((f2.trans f4).trans f5)
    · exact q4.elim, kx⟩
end
end DL
namespace DL
open PySem L2 Evl PySem.Spec PyProof.Rows LamX
/-! ### slices -/
abbrev GP := Env → (Option Int → Env → Prop) → (DX → Prop) → Prop
def pNo : GP := fun δ P _ => P none δ
def pSo (g : GE) : GP := fun δ P X => g δ (fun r δ1 => vw r fun d => match d with
  | .int i => P (some i) δ1
  | _ => False) X
def tPt (A : Am) (E : XK) (g : GP) : TO := fun σ H Q => ∃ (F : Hp) (δ : Env) (P : Option Int → Env → Prop) (X : DX → Prop), Stt A F H σ δ ∧ g δ P X ∧
  (∀ o δ' F' H', P o δ' → Stt A F' H' σ δ' → Fr σ δ F H σ δ' F' H' → Q o H') ∧ (∀ x F' H' cls d, X x → ErAt A σ δ F H x F' H' cls d → E cls d H')
def cutA {α : Type} (xs : List α) (lo hi : Option Int) : List α := (xs.drop (HT.sIx xs.length 0 lo)).take (HT.sIx xs.length xs.length hi - HT.sIx xs.length 0 lo)
def slD (d : D) (lo hi : Option Int) (k : Sl → Prop) : Prop := match d with
  | .lst ds => k (.ow (.lst (cutA ds lo hi)))
  | .tup ds => k (.fz (.tup (cutA ds lo hi)))
  | .str z => z.length ≤ 1000000 ∧ k (.fz (.str (Txt.slice z lo hi)))
  | _ => False
def eSl (a : GO) (lo hi : GP) : GE := fun δ P X => a δ (fun h δ1 => lo δ1 (fun l δ2 => hi δ2 (fun u δ3 => rsl h δ3 fun d => slD d l u fun r => P r δ3) X) X) X
section
variable {A : Am} {F H : Hp}
theorem Reps.cut {ds : List D} {vs : List V} (h : Reps A F ds vs) (lo hi : Option Int) : Reps A F (cutA ds lo hi) (cutV vs lo hi) := by
  unfold cutA cutV
  rw [h.length]
  exact (h.drop _).take _
def rSl3 (K : PySem.W.Frag) : V → Option Int → Option Int → Hp → VK → Prop := fun x lo hi H Q => rSlL K x lo hi H Q ∨ (rSlA K x lo hi H Q ∨ C8.rSlX x lo hi H Q)
theorem sl_new {K : PySem.W.Frag} (hK : K = A.K) {d : D} {v : V} {lo hi : Option Int} {k : Sl → Prop} {Q : VK} (s : Ex F H) (a : ArgAt A F H d v) (h : slD d lo hi k) (hq : ∀ r F' H' w, k r → New A F H F' H' r w → Q w H') : rSl3 K v lo hi H Q := by
  subst hK
  unfold slD at h
  split at h
  · rename_i ds
    obtain ⟨p, vs, rfl, hH, hr⟩ := arg_lst s a
    exact .inl ⟨p, vs, rfl, .inl (.inl hH), fun q hp => hq _ _ _ _ h (new_lst s hp (hr.cut lo hi))⟩
  · rename_i ds
    obtain ⟨p, vs, rfl, hF, hH, hr⟩ := arg_tup s a
    refine .inr (.inl ⟨p, vs, rfl, hH, fun ⟨h1, h2⟩ => ?_, fun _ q hp => hq _ _ _ _ h (new_tup s hp (hr.cut lo hi))⟩)
    have e : cutA ds lo hi = ds := by
      unfold cutA
      rw [hr.length, h1, h2, ← hr.length]
      simp
    rw [e] at h
    exact hq _ _ _ _ h (new_fz s (.tup hF hr))
  · rename_i z
    cases arg_str a
    exact .inr (.inr ⟨z, rfl, sz_big h.1, hq _ _ _ _ h.2 (new_fz s (.str _))⟩)
  · exact h.elim
end
section
variable {X : Cx} {A : Am} {E : XK} {e : Expr} {g : GE} {a : GO} {lo hi : Option Expr} {gl gh : GP} {p2 pos : Pos}
theorem po_weak {e : Option Expr} {t t' : TO} (h : PO X e t) (i : ∀ σ H Q, t' σ H Q → t σ H Q) : PO X e t' := ⟨fun pins s σ H Q I q => h.run pins s σ H Q I (i _ _ _ q)⟩
theorem dp_no : PO X none (tPt A E pNo) := po_weak po_none fun σ H Q ⟨F, δ, P, Z, S, q, k, kx⟩ => k _ _ _ _ q S Fr.refl
theorem dp_so (h : PE X e (tE A E g)) : PO X (some e) (tPt A E (pSo g)) := po_weak (po_some h) fun σ H Q ⟨F, δ, P, Z, S, q, k, kx⟩ => ⟨F, δ, _, Z, S, q, fun r δ1 F1 H1 v q1 S1 f1 R => by
  obtain ⟨F2, dd, _, S2, f2, hr2, q2⟩ := frz_tmp S1 f1 R rfl q1
  cases hr2 with
  | int i => exact ⟨i, rfl, k _ _ _ _ q2 S2 f2⟩
  | _ => exact (q2 : False).elim, kx⟩
theorem de_sl (hK : X.K = A.K) (he : PE X e (tO A E a)) (hl : PO X lo (tPt A E gl)) (hh : PO X hi (tPt A E gh)) : PE X (.Subscript e (.Slice lo hi none p2) pos) (tE A E (eSl a gl gh)) :=
  pe_weak (pe_slice (SlR.or sl_list (SlR.or sl_tupA C8.sl_txt)) he hl hh) fun σ H Q ⟨F, δ, P, Z, S, q, k, kx⟩ => ⟨F, δ, _, Z, S, q, fun h1 δ1 F1 H1 v1 q1 S1 f1 a1 => ⟨F1, δ1, _, Z, S1, q1, fun l δ2 F2 H2 q2 S2 f2 => ⟨F2, δ2, _, Z, S2, q2, fun u δ3 F3 H3 q3 S3 f3 => by
    obtain ⟨d, r, q4⟩ := rsl_at S3 ((a1.mono f2.up).mono f3.up) q3
    have f123 := (f1.trans f2).trans f3
    refine sl_new hK S3.sub r q4 fun r F' H' w q5 n => ?_
    obtain ⟨S4, f4, R⟩ := n.stt S3
    exact k _ _ _ _ _ q5 S4 (f123.trans f4) (R.back f123), fun x F' H' cls d z er => kx x F' H' cls d z (er.back (f1.trans f2))⟩, fun x F' H' cls d z er => kx x F' H' cls d z (er.back f1)⟩, kx⟩
end
/-! ### list(range(..)), tuple(range(..)) -/
def eLRg (gs : GI) : GE := fun δ P X => gs δ (fun ds δ1 => ds.length ≤ 100000 ∧ P (.ow (.lst ds)) δ1) X
def eTRg (gs : GI) : GE := fun δ P X => gs δ (fun ds δ1 => ds.length ≤ 100000 ∧ P (.fz (.tup ds)) δ1) X
theorem rgV_reps {A : Am} {F : Hp} (a b : Int) : Reps A F (rgD a (b - a).toNat) (rgV a b) := by
  unfold rgV
  have : ∀ (n : Nat) (a : Int), Reps A F (rgD a n) ((List.range n).map fun (i : Nat) => V.int (a + (i : Int))) := fun n => by
    induction n with
    | zero => intro a; exact .nil
    | succ n ih =>
      intro a
      rw [List.range_succ_eq_map, List.map_cons, List.map_map]
      refine .cons (by simp; exact .int a) ?_
      have := ih (a + 1)
      have e : ((List.range n).map ((fun (i : Nat) => V.int (a + (i : Int))) ∘ Nat.succ)) = (List.range n).map fun (i : Nat) => V.int (a + 1 + (i : Int)) := by
        apply List.map_congr_left
        intro i _
        simp; omega
      rw [e]; exact this
  exact this _ _
section
variable {X : Cx} {A : Am} {E : XK} {e e1 e2 : Expr} {g1 g2 : GO} {p pos p0 pos0 : Pos}
theorem rg_len' (a : Int) (n : Nat) : (rgD a n).length = n := rg_len n a
theorem de_lrg1 (hc : X.calm = true) (hg : Gl X "list") (hm : X.mg "list" = none) (hg0 : Gl X "range") (hm0 : X.mg "range" = none) (h1 : PE X e1 (tO A E g1)) (na : starEach [e1] X.env = (false, eval e1 X.env) :: starEach [] X.env := by rfl)
    (na2 : starEach [.Call (.Name "range" p0) [e1] [] pos0] X.env = (false, eval (.Call (.Name "range" p0) [e1] [] pos0) X.env) :: starEach [] X.env := by rfl) : PE X (.Call (.Name "list" p) [.Call (.Name "range" p0) [e1] [] pos0] [] pos) (tE A E (eLRg (iR1 (aCons g1 aNil)))) :=
  pe_weak (pe_listRg hc hg hm (prg_1 hg0 hm0 h1 na) na2) fun σ H Q ⟨F, δ, P, Z, S, q, k, kx⟩ => ⟨F, δ, _, Z, S, q, fun h δ1 F1 H1 v q1 S1 f1 a1 => by
    obtain ⟨d, r, q2⟩ := rsl_at S1 a1 q1
    simp only [rsls] at q2
    cases d with
    | int j =>
      obtain ⟨⟨j1, j2⟩, hl, q3⟩ := q2
      cases arg_int r
      rw [rg_len'] at hl
      refine ⟨j, rfl, ⟨by decide, by decide, by omega, by omega, by omega⟩, fun q hq => ?_⟩
      have n := new_lst (A := A) S1.sub hq (rgV_reps 0 j)
      rw [Int.sub_zero] at n
      obtain ⟨S3, f3, R⟩ := n.stt S1
      exact k _ _ _ _ _ q3 S3 (f1.trans f3) (R.back f1)
    | _ => exact (q2 : False).elim, kx⟩
theorem de_trg1 (hc : X.calm = true) (hg : Gl X "tuple") (hm : X.mg "tuple" = none) (hg0 : Gl X "range") (hm0 : X.mg "range" = none) (h1 : PE X e1 (tO A E g1)) (na : starEach [e1] X.env = (false, eval e1 X.env) :: starEach [] X.env := by rfl)
    (na2 : starEach [.Call (.Name "range" p0) [e1] [] pos0] X.env = (false, eval (.Call (.Name "range" p0) [e1] [] pos0) X.env) :: starEach [] X.env := by rfl) : PE X (.Call (.Name "tuple" p) [.Call (.Name "range" p0) [e1] [] pos0] [] pos) (tE A E (eTRg (iR1 (aCons g1 aNil)))) :=
  pe_weak (pe_tupRg hc hg hm (prg_1 hg0 hm0 h1 na) na2) fun σ H Q ⟨F, δ, P, Z, S, q, k, kx⟩ => ⟨F, δ, _, Z, S, q, fun h δ1 F1 H1 v q1 S1 f1 a1 => by
    obtain ⟨d, r, q2⟩ := rsl_at S1 a1 q1
    simp only [rsls] at q2
    cases d with
    | int j =>
      obtain ⟨⟨j1, j2⟩, hl, q3⟩ := q2
      cases arg_int r
      rw [rg_len'] at hl
      refine ⟨j, rfl, ⟨by decide, by decide, by omega, by omega, by omega⟩, fun q hq => ?_⟩
      have n := new_tup (A := A) S1.sub hq (rgV_reps 0 j)
      rw [Int.sub_zero] at n
      obtain ⟨S3, f3, R⟩ := n.stt S1
      exact k _ _ _ _ _ q3 S3 (f1.trans f3) (R.back f1)
    | _ => exact (q2 : False).elim, kx⟩
theorem de_lrg2 (hc : X.calm = true) (hg : Gl X "list") (hm : X.mg "list" = none) (hg0 : Gl X "range") (hm0 : X.mg "range" = none) (h1 : PE X e1 (tO A E g1)) (h2 : PE X e2 (tO A E g2)) (na : starEach [e1, e2] X.env = (false, eval e1 X.env) :: starEach [e2] X.env := by rfl)
    (nb : starEach [e2] X.env = (false, eval e2 X.env) :: starEach [] X.env := by rfl) (hp : (backTo pos0 (starEach [e2] X.env)).any (·.1) = false := by rfl)
    (na2 : starEach [.Call (.Name "range" p0) [e1, e2] [] pos0] X.env = (false, eval (.Call (.Name "range" p0) [e1, e2] [] pos0) X.env) :: starEach [] X.env := by rfl) : PE X (.Call (.Name "list" p) [.Call (.Name "range" p0) [e1, e2] [] pos0] [] pos) (tE A E (eLRg (iR2 (aCons g1 (aCons g2 aNil))))) :=
  pe_weak (pe_listRg hc hg hm (prg_2 hg0 hm0 h1 h2 na nb hp) na2) fun σ H Q ⟨F, δ, P, Z, S, q, k, kx⟩ => ⟨F, δ, _, Z, S, q, fun h δ1 F1 H1 v q1 S1 f1 a1 => ⟨F1, δ1, _, Z, S1, q1, fun h' δ2 F2 H2 v2 q1' S2 f2 a2 => by
    obtain ⟨d, r, q2⟩ := rsl_at S2 (a1.mono f2.up) q1'
    simp only [rsls] at q2
    obtain ⟨d', r', q2⟩ := rsl_at S2 a2 q2
    have f12 := f1.trans f2
    cases d with
    | int i =>
      cases d' with
      | int j =>
        obtain ⟨i1, i2, ⟨j1, j2⟩, hl, q3⟩ := q2
        cases arg_int r
        cases arg_int r'
        rw [rg_len'] at hl
        refine ⟨i, j, rfl, rfl, ⟨by omega, by omega, by omega, by omega, by omega⟩, fun q hq => ?_⟩
        have n := new_lst (A := A) S2.sub hq (rgV_reps i j)
        obtain ⟨S3, f3, R⟩ := n.stt S2
        exact k _ _ _ _ _ q3 S3 (f12.trans f3) (R.back f12)
      | _ => exact (q2 : False).elim
    | _ => exact (q2 : False).elim, fun x F' H' cls d z er => kx x F' H' cls d z (er.back f1)⟩, kx⟩
end
end DL
namespace DL
open PySem L2 Evl PySem.Spec PyProof.Rows LamX
/-! ### enumerate(tuple) -/
theorem en_new (tp : Addr) (vals : Array Value) (ep : Nat) (td : Option Addr) (ts : Array (Option Value)) :
    Meets (Builtin.«enumerate.__new__» ⟨[.type "enumerate", .ref tp], []⟩) (fun _ R s => s.heap.get? tp = some { cls := .type "tuple", dict := td, data := .seq vals ep, slots := ts } ∧
      R (.ok (.ret (.ref (s.heap.push { cls := .type "tuple_iterator", data := .fields #[.ref tp, .int 0 0] }).objs.size))) { s with heap := (s.heap.push { cls := .type "tuple_iterator", data := .fields #[.ref tp, .int 0 0] }).push { cls := .type "enumerate", data := .fields #[.none, .bool false, .ref s.heap.objs.size, rawInt 0, .none, .none] } }) :=
  .of_wp fun prog w A R s h => by
    obtain ⟨hp, g, d, tk, os⟩ := s
    obtain ⟨hl, h⟩ := h
    have hsub := sub_enumerate
    have hL : Heap.IsTuple (Shared.heap ⟨hp, g, d, tk, os⟩) tp vals := ⟨_, hl, rfl, ep, rfl⟩
    wp_walk using AutoSeq1.wpAny_loadPart' hl
    refine wpAny_stack_any fun st => wpAny_pure ?_
    split
    · rename_i c _ _ _ _ _
      cases (c == Value.type "enumerate")
      · wp_walk using AutoSeq1.wpAny_loadPart' hl, wpAny_pyIter_tuple hL
        exact ⟨_, rfl, h⟩
      · wp_walk using AutoSeq1.wpAny_loadPart' hl, wpAny_pyIter_tuple hL
        exact ⟨_, rfl, h⟩
    · wp_walk using AutoSeq1.wpAny_loadPart' hl, wpAny_pyIter_tuple hL
      exact ⟨_, rfl, h⟩
theorem en_call {prog : Program} {w : World} {A : Around} {E : Value → Shared → Prop} {s : Shared} {tp : Addr} {vals : Array Value} {Q : Value → Shared → Prop} (hL : s.heap.IsTuple tp vals)
    (h : ∀ h1, IsEnum h1 (s.heap.objs.size + 1) s.heap.objs.size 0 .none → h1.IsTupleIter s.heap.objs.size tp 0 → (∀ b o, s.heap.get? b = some o → h1.get? b = some o) → Q (.ref (s.heap.objs.size + 1)) { s with heap := h1 }) :
    wpAny (model prog w) A (call (.type "enumerate") [.ref tp]) Q E s := by
  obtain ⟨⟨oc, td, dt, ts⟩, hl, hc, ep, hd⟩ := hL
  replace hc : oc = .type "tuple" := hc
  replace hd : dt = .seq vals ep := hd
  subst hc hd
  refine callType_new F.called_enumerate (by decide) (F.typeCall_enumerate_1 _) (F.newCall_enumerate_1 _) (fun ob => F.args_object_init_2 ob _) F.entry_enumerate_new (en_new tp vals ep td ts) ⟨hl, ?_⟩
  have sz : (s.heap.push { cls := .type "tuple_iterator", data := .fields #[.ref tp, .int 0 0] }).objs.size = s.heap.objs.size + 1 := Heap.size_push ..
  show _ ∧ _
  rw [sz]
  have en : IsEnum ((s.heap.push { cls := .type "tuple_iterator", data := .fields #[.ref tp, .int 0 0] }).push { cls := .type "enumerate", data := .fields #[.none, .bool false, .ref s.heap.objs.size, rawInt 0, .none, .none] }) (s.heap.objs.size + 1) s.heap.objs.size 0 .none := by
    rw [← sz]
    exact Heap.get?_push_size _ rfl
  refine ⟨⟨_, en, rfl⟩, h _ en ⟨_, Heap.get?_push_of_some _ (Heap.get?_push_size _ rfl), rfl, rfl⟩ fun b o e => Heap.get?_push_of_some _ (Heap.get?_push_of_some _ e)⟩
/-- the tuple at a, each item in a new pair -/
def ItE (K : PySem.W.Frag) (a : Addr) : It :=
  ⟨fun n H => ∃ (zs : List V) (z : V), SqT K H a zs ∧ zs[n]? = some z, fun n H v H2 => ∃ p z, v = .ref p ∧ H p = none ∧ H2 = upd H p (.tup [.int (n : Nat), z]) ∧ ∀ zs, SqT K H a zs → zs[n]? = some z, fun n H => ∃ zs : List V, SqT K H a zs ∧ zs.length = n⟩
theorem turnE {P : Program} {w : World} {K : PySem.W.Frag} {el : List Expr} {kk : Nat} {tpos : Pos} (a en tr : Addr) :
    Turn P w K (.Tuple el kk tpos) (ItE K a) [en, tr] en (fun n h => (∃ old, IsEnum h en tr ((n : Nat) : Int) old) ∧ h.IsTupleIter tr a n ∧ en ≠ tr ∧ a ≠ tr ∧ a ≠ en) where
  mem := by simp
  obj := fun n h st b hb => by
    obtain ⟨⟨old, he⟩, ⟨o, ho, hc, hd⟩, _⟩ := st
    rcases (show b = en ∨ b = tr by simpa using hb) with rfl | rfl
    · exact ⟨_, he, fun v q => nomatch q⟩
    · exact ⟨o, ho, fun v q => by rw [hd] at q; cases q⟩
  keep := fun n h h2 st k => by
    obtain ⟨⟨old, he⟩, ht, r⟩ := st
    exact ⟨⟨old, k en (by simp) _ he⟩, ht.at fun o q => k tr (by simp) o q, r⟩
  item := by
    intro X hP hw hK hc n pins s σ H E I hf st hg
    subst hP hw hK
    obtain ⟨⟨old, he⟩, ht, ne1, ne2, ne3⟩ := st
    obtain ⟨zs, z, hz, hx⟩ := hg
    obtain ⟨its, rv, p, _⟩ := I.tuple hz
    obtain ⟨u, hu, ru⟩ := rv.get hx
    have ln : n < its.toArray.size := by
      have := (List.getElem?_eq_some_iff.mp hu).1
      simpa using this
    have elt : en < s.heap.objs.size := Heap.lt_size he
    have tlt : tr < s.heap.objs.size := by obtain ⟨_, q, _⟩ := ht; exact Heap.lt_size q
    refine wpAny_pyNext_enum_itemD (Draws.tuple (A := X.A.in1) (I.ok.hd hc) tr a ne2 its.toArray) he ⟨ht, p⟩ ln ne1 (by simp [ne1, Ne.symm ne3]) fun x h1 tk hp out st1 hT hs hk => ?_
    obtain rfl : x = u := by
      have : its[n]? = some x := by simpa using hp
      rw [hu] at this; cases this; rfl
    refine ⟨_, rfl, wpAny_letOwnedTupleGo_enum (s := { s with heap := h1, toks := tk + 1 }) out fun h2 en2 sb => ?_⟩
    have hT2 : h2.get? s.heap.objs.size = some { cls := .type "tuple", data := .seq #[.int n tk, x] } := (sb.2 _ (Nat.ne_of_gt elt)).trans hT
    have fresh : ObjOk X.prog X.w (upd H s.heap.objs.size (.tup [.int (n : Nat), z])) h2 s.heap.objs.size (.tup [.int (n : Nat), z]) := ⟨by show 2 ≤ sizeLine; decide, [.int n tk, x], .cons ⟨_, rfl⟩ (.cons ru .nil), ⟨_, hT2, rfl, _, rfl⟩⟩
    have J : Inv X pins σ (upd H s.heap.objs.size (.tup [.int (n : Nat), z])) { s with heap := h2, toks := tk + 1 } := I.turnedNew (ch := [en, tr]) (fun b ob hb q => (sb.2 b (fun y => hb (by simp [y]))).trans (hk b ob (fun y => hb (by simp [y])) (fun y => hb (by simp [y])) q)) hf (Nat.le_refl _) fresh
    refine ⟨.ref s.heap.objs.size, _, J, rfl, ⟨_, z, rfl, I.hok.fresh (Nat.le_refl _), rfl, fun ys hy => ?_⟩, ⟨⟨x, ?_⟩, st1.1.at fun o q => (sb.2 tr (Ne.symm ne1)).trans q, ne1, ne2, ne3⟩, fun b hb => ?_⟩
    · rw [I.tuple_inj hy hz]; exact hx
    · have e1 : ((n + 1 : Nat) : Int) = (n : Int) + 1 := by omega
      rw [e1]; exact en2
    · have lb : b < s.heap.objs.size := by
        rcases (show b = en ∨ b = tr by simpa using hb) with rfl | rfl
        · exact elt
        · exact tlt
      rw [upd_ne (Nat.ne_of_lt lb)]
      exact (hf b hb).1
  done := by
    intro X hP hw hK hc n pins s σ H E I hf st hg
    subst hP hw hK
    obtain ⟨⟨old, he⟩, ht, ne1, ne2, ne3⟩ := st
    obtain ⟨zs, hz, hx⟩ := hg
    obtain ⟨its, rv, p, _⟩ := I.tuple hz
    obtain ⟨f0, f1, f2, f3, f4, f5⟩ := hf tr (by simp)
    have hl := rv.length
    have e : n = its.toArray.size := by simp; omega
    subst e
    exact wpAny_pyNext_enum_endD (Draws.tuple (A := X.A.in1) (I.ok.hd hc) tr a ne2 its.toArray) he ⟨ht, p⟩ fun h2 eb => ⟨rfl, I.turned (t' := s.toks) (fun b o hb q => eb b o hb q) f0 f1 f3 f4 f5⟩
  self := fun A n s Q E st h => let ⟨⟨_, he⟩, _⟩ := st; wpAny_pyIter_enum he h
def iEnT (K : PySem.W.Frag) (ta : TA) : TI := fun σ H R => ta σ H fun vs H1 => ∃ a zs, vs = [.ref a] ∧ SqT K H1 a zs ∧ R (ItE K a) H1
theorem pi_enT {X : Cx} {e : Expr} {ta : TA} {p pos tpos : Pos} {el : List Expr} {kk : Nat} (hg : Gl X "enumerate") (hm : X.mg "enumerate" = none) (ha : PA X [e] ta) (hs : starEach [e] X.env = [(false, eval e X.env)] := by rfl) :
    PI X (.Tuple el kk tpos) (.Call (.Name "enumerate" p) [e] [] pos) (iEnT X.K ta) := by
  refine ⟨fun pins s σ H R I h => ?_⟩
  refine Call_ (ld_blt I hg hm boot_enumerate (PyProof.Rows.callWith_type1 (thn (ha.run pos pins s σ H _ I h) fun us s1 ⟨vs, H1, I1, r1, a, zs, ex, hz, q⟩ => ?_) hs rfl))
  subst ex
  obtain ⟨u, rfl, r⟩ := r1.one
  cases r
  obtain ⟨its, rv, pl, _⟩ := I1.tuple hz
  have alt : a < s1.heap.objs.size := by obtain ⟨_, y, _⟩ := pl; exact Heap.lt_size y
  refine en_call pl fun h2 he ht hk => wpAny_pyIter_enum he ?_
  refine ⟨s1.heap.objs.size + 1, [s1.heap.objs.size + 1, s1.heap.objs.size], _, _, H1, rfl, I1.kept (t' := s1.toks) hk, turnE a (s1.heap.objs.size + 1) s1.heap.objs.size, ⟨⟨.none, he⟩, ht, Nat.succ_ne_self _, Nat.ne_of_lt alt, Nat.ne_of_lt (Nat.lt_succ_of_lt alt)⟩, fun b hb => ?_, q⟩
  have le : s1.heap.objs.size ≤ b := by
    rcases (show b = s1.heap.objs.size + 1 ∨ b = s1.heap.objs.size by simpa using hb) with rfl | rfl
    · exact Nat.le_succ _
    · exact Nat.le_refl _
  exact I1.fpOk le (I1.hok.fresh le)
/-! ### .. as data: each item a pair -/
def enD : Nat → List D → List D
  | _, [] => []
  | n, d :: ds => .tup [.int (n : Int), d] :: enD (n + 1) ds
def iEn (gs : GA) : GI := fun δ P X => gs δ (fun hs δ1 => rfx hs fun ds => match ds with
  | [.tup es] => P (enD 0 es) δ1
  | _ => False) X
theorem enD_get : ∀ {ds : List D} {n i : Nat}, (enD n ds)[i]? = (ds[i]?).map fun d => .tup [.int ((n + i : Nat) : Int), d]
  | [], _, _ => by simp [enD]
  | d :: ds, n, 0 => by simp [enD]
  | d :: ds, n, i + 1 => by
    simp only [enD, List.getElem?_cons_succ]
    rw [enD_get, show n + 1 + i = n + (i + 1) by omega]
theorem enD_len : ∀ (ds : List D) (n : Nat), (enD n ds).length = ds.length
  | [], _ => rfl
  | d :: ds, n => by simp [enD, enD_len ds]
section
variable {X : Cx} {A : Am} {E : XK} {e : Expr} {gs : GA} {p pos tpos : Pos} {el : List Expr} {kk : Nat}
theorem di_en (hK : A.K = X.K) (hg : Gl X "enumerate") (hm : X.mg "enumerate" = none) (ha : PA X [e] (tAr A E gs)) (hs : starEach [e] X.env = [(false, eval e X.env)] := by rfl) :
    PI X (.Tuple el kk tpos) (.Call (.Name "enumerate" p) [e] [] pos) (tI A E (iEn gs)) := by
  have h := pi_enT (tpos := tpos) (kk := kk) (el := el) (p := p) (pos := pos) hg hm ha hs
  refine ⟨fun pins s σ H R I q => h.run pins s σ H R I ?_⟩
  obtain ⟨F, δ, P, Z, S, q, k, kx⟩ := q
  refine ⟨F, δ, _, Z, S, q, fun hs δ1 F1 H1 vs q1 S1 f1 a1 => ?_, kx⟩
  obtain ⟨ds, r1, q2⟩ := rfx_at a1 q1
  split at q2
  · rename_i es
    cases r1 with
    | cons r1 r2 =>
      cases r2
      cases r1 with
      | @tup a xs _ hx hr =>
        refine ⟨a, xs, rfl, hK ▸ ex_t S1.sub hx, k _ _ _ _ _ q2 S1 f1 ⟨fun i F2 H2 hi le ex => ?_, fun i F2 H2 x H3 hi le ex hy => ?_, fun i F2 H2 hi le ex => ?_⟩⟩
        · rw [enD_len, hr.length] at hi
          exact ⟨xs, xs[i], hK ▸ ex_t ex (le.t hx), by simp [hi]⟩
        · obtain ⟨T, z, rfl, hT, rfl, hz⟩ := hy
          have hz' := hz xs (hK ▸ ex_t ex (le.t hx))
          have hi' : i < es.length := by rw [enD_len] at hi; exact hi
          obtain ⟨w, hw, hrw⟩ := hr.get (List.getElem?_eq_getElem hi')
          rw [hw] at hz'; cases hz'
          refine ⟨_, .tup [.int (i : Int), es[i]], by rw [enD_get]; simp [hi'], new_tup ex hT (.cons (.int _) (.cons (hrw.mono le) .nil))⟩
        · rw [enD_len, hr.length] at hi
          exact ⟨xs, hK ▸ ex_t ex (le.t hx), hi.symm⟩
  · exact q2.elim
end
end DL
namespace DL
open PySem L2 Evl PySem.Spec PyProof.Rows LamX
/-! ### x == y, x != y of two objects of a class with an own __eq__ -/
structure EqK (K : PySem.W.Frag) (C f : Addr) : Prop where
  cls : ∃ nm q N bs hdct sn sub ab col dd k0 k1 k2 k3 k5 newId oc od es ep osl, K.lookup C = some (excClassObj nm q C N bs [.type "object"] hdct sn sub ab col dd k0 k1 k2 k3 k5 newId) ∧ K.lookup N = some ⟨oc, od, .dict es ep, osl⟩ ∧ StrKeys es ∧ nsFind es "__eq__" = some (.ref f) ∧ nsFind es "__ne__" = none
  fn : PySem.W.isFn K (.ref f) = true
  fnc : ∃ ob, K.lookup f = some ob ∧ ob.cls = .type "function"
  fi : PySem.W.findIn K (.ref C) "__eq__" = some (some (.ref f))
/-- both objects of the class, the call's wish told of its answer -/
def rOwnC (neg : Bool) (C : Addr) (sp : Sp) (E : XK) : R2 := fun x y H Q => ∃ p q dx dy fs gs, x = .ref p ∧ y = .ref q ∧ H p = some (.ins C dx fs) ∧ H q = some (.ins C dy gs) ∧ sp [.ref p, .ref q] H (fun v H' => ∃ b, v = .bl b ∧ Q (.bl (xor neg b)) H') E
section
variable {X : Cx} {CX : CXT} {n : Nat} {C f : Addr} {fd : FuncData} {ps : List Str} {sp : Sp} {E : XK}
theorem own_call (F : FnOk X.prog X.w X.K X.mg X.base CX n f fd ps sp) (hb : Binds X.K fd ps []) (hx : Passes CX X E) {A : Around} (hr : Room n A) (hA : A.frames = X.A.frames) {pins : List (Addr × Obj)} {s : Shared} {σ : L2.St} {H : Hp} {p q : Addr} {Q : VK} (I : Inv X pins σ H s) (h : sp [.ref p, .ref q] H Q E) :
    wpAny (model X.prog X.w) A (call (.ref f) [.ref p, .ref q]) (EP X pins σ Q) X.xe s := by
  have e0 : Env0 X.prog X.w X.K X.mg X.base A X.stack s H := by
    have e := I.env0
    exact ⟨by rw [hA]; exact e.frames, e.mod, e.bs, e.bsz, e.funs, e.frf, e.hok, e.bare⟩
  have hl := F.len _ _ _ _ h
  refine wpAny_call (codeAny_mono (F.run A X.stack s H ⟨[.ref p, .ref q], []⟩ [.ref p, .ref q] [.ref p, .ref q] Q E hr e0 (by
    have b := hb s [.ref p, .ref q] I.kIn (by simpa using hl)
    simpa using b) (.cons rfl (.cons rfl .nil)) h) fun r s' hq => ?_)
  cases r with
  | error e => exact hx pins σ H s e s' I hq
  | ok fl =>
    cases fl with
    | ret u => exact I.after hq
    | next => exact False.elim hq
    | brk => exact False.elim hq
    | cont => exact False.elim hq
theorem in1_frames (A : Around) : A.in1.frames = A.frames := rfl
theorem op_eqC (T : EqK X.K C f) (F : FnOk X.prog X.w X.K X.mg X.base CX n f fd ps sp) (hb : Binds X.K fd ps []) (hx : Passes CX X E) (hr : Room n X.A) : OpR X (compareOp .Eq) (rOwnC false C sp E) := by
  intro pins s σ H x y v u Q I rx ry h
  obtain ⟨p, q, dx, dy, fs, gs, rfl, rfl, h1, h2, h3⟩ := h
  cases rx
  cases ry
  obtain ⟨mA, J, _⟩ := ins_get I.hok h1
  obtain ⟨mB, J2, _⟩ := ins_get I.hok h2
  obtain ⟨od, J, _⟩ := J.look
  obtain ⟨od2, J2, _⟩ := J2.look
  obtain ⟨m, hF⟩ := I.fr
  show wpAny (model X.prog X.w) X.A (richCompare .Eq (.ref p) (.ref q)) (EP X pins σ Q) X.xe s
  refine PySem.W.cmp_K (op := .Eq) (tb := .ref C) hr.units0 hF I.ok.mod.kin J J2.type (by simp [PySem.W.notFirst]) T.fi T.fn (wpAny_mono (own_call F hb hx hr rfl I h3) (fun w s' z => ?_) fun _ _ z => z)
  obtain ⟨w', H', I', rw', b, eb, hq⟩ := z
  subst eb
  cases rw'
  exact ⟨.bl b, H', I', rfl, by simpa using hq⟩
theorem own_ne (K : PySem.W.Frag) {h : Heap} {x : Addr} {o : Obj} (X : K.In h) (T : EqK K C f) (hx : h.get? x = some o) (hc : o.cls = .ref C) : h.OwnEqNoNe x C f "object" [.type "object"] := by
  obtain ⟨nm, q, N, bs, hdct, sn, sub, ab, col, dd, k0, k1, k2, k3, k5, newId, oc, od, es, ep, osl, e1, e2, sk, e3, e4⟩ := T.cls
  obtain ⟨ob, e5, e6⟩ := T.fnc
  exact ⟨o, ob, nm, q, N, bs, hdct, sn, sub, ab, col, dd, k0, k1, k2, k3, k5, newId, fun y => nsFind es y, _, hx, hc, X _ _ e1, ⟨_, es, ep, X _ _ e2, rfl, sk, fun _ => rfl⟩, e3, X _ _ e5, e6, PySem.F.cmp_object.mro, PySem.F.cmp_object.eq.lookup, e4⟩
theorem op_neC (T : EqK X.K C f) (F : FnOk X.prog X.w X.K X.mg X.base CX n f fd ps sp) (hb : Binds X.K fd ps []) (hx : Passes CX X E) (hr : Room (n + 1) X.A) : OpR X (compareOp .NotEq) (rOwnC true C sp E) := by
  intro pins s σ H x y v u Q I rx ry h
  obtain ⟨p, q, dx, dy, fs, gs, rfl, rfl, h1, h2, h3⟩ := h
  cases rx
  cases ry
  obtain ⟨mA, J, _⟩ := ins_get I.hok h1
  obtain ⟨mB, J2, _⟩ := ins_get I.hok h2
  obtain ⟨od, J, _⟩ := J.look
  obtain ⟨od2, J2, _⟩ := J2.look
  have T1 := own_ne X.K I.kIn T J.at_ J.cls
  have hu : X.A.units + 1 < cLine := by have := hr.un; omega
  obtain ⟨hp, g, d, tk, os⟩ := s
  refine compareOp_ne_ownEq PySem.F.cmp_object T1 J2.at_ J2.cls hu (wpAny_mono (own_call F hb hx hr.in1 rfl I h3) (fun w s' z => ?_) fun _ _ z => z)
  obtain ⟨w', H', I', rw', b, eb, hq⟩ := z
  subst eb
  cases rw'
  exact ⟨b, rfl, .bl (!b), H', I', rfl, by simpa using hq⟩
end
/-! ### .. as data -/
def isI (C : Str) : D → Prop
  | .ins C2 _ => C2 = C
  | _ => False
def eOwn (neg : Bool) (C : Str) (df : DF) (a b : GO) : GE := fun δ P X => a δ (fun h1 δ1 => b δ1 (fun h2 δ2 => rsl h1 δ2 fun d1 => rsl h2 δ2 fun d2 => isI C d1 ∧ isI C d2 ∧ match argS [h1, h2] δ2 with
  | some ss => df ss (fun r => ∃ t, r = .fz (.bl t) ∧ P (.fz (.bl (xor neg t))) δ2) X
  | none => False) X) X
section
variable {X : Cx} {A : Am} {E : XK} {n : Nat} {C : Str} {f : Addr} {fd : FuncData} {ps : List Str} {df : DF} {ga gb : GO} {e : Expr} {neg : Bool}
theorem own_pt (σ : L2.St) (H : Hp) (Q : VK) : tE A E (eOwn neg C df ga gb) σ H Q → tOp (rOwnC neg (A.ad C) (spD A 2 df) E) (tO A E ga) (tO A E gb) σ H Q := fun ⟨F, δ, P, Z, S, q, k, kx⟩ => ⟨F, δ, _, Z, S, q, fun h1 δ1 F1 H1 v1 q1 S1 f1 a1 => ⟨F1, δ1, _, Z, S1, q1, fun h2 δ2 F2 H2 v2 q2 S2 f2 a2 => by
    have b1 := a1.mono f2.up
    have f12 := f1.trans f2
    obtain ⟨d1, r1, q3⟩ := rsl_at S2 b1 q2
    obtain ⟨d2, r2, q4⟩ := rsl_at S2 a2 q3
    obtain ⟨i1, i2, q5⟩ := q4
    have hds : HdsAt A F2 σ [h1, h2] [v1, v2] := .cons b1 (.cons a2 .nil)
    have ins : ∀ {d : D} {v : V}, isI C d → ArgAt A F2 H2 d v → ∃ p dx fs, v = .ref p ∧ H2 p = some (.ins (A.ad C) dx fs) := fun {d v} hi a => by
      cases d with
      | ins C2 gs =>
        have : C2 = C := hi
        subst this
        cases a with
        | rep r => cases r with
          | ins z1 z2 _ => exact ⟨_, _, _, rfl, S2.sub _ _ z1⟩
      | _ => exact (show False from hi).elim
    obtain ⟨p, dx, fs, rfl, g1⟩ := ins i1 r1
    obtain ⟨p', dy, fs', rfl, g2⟩ := ins i2 r2
    split at q5
    · rename_i ss es
      obtain ⟨S3, ok, _⟩ := S2.callee hds es
      refine ⟨p, p', dx, dy, fs, fs', rfl, rfl, g1, g2, rfl, F2, ss, _, _, S3, ok, q5, fun r F' H' v ⟨t, er, q6⟩ R => ?_, fun x F' H' cls d z er => kx x F' H' cls d z ((er.call S2 hds es).back f12)⟩
      subst er
      obtain ⟨S4, f4, R4⟩ := R.stt S2 hds es
      cases (show Rep A F' (.bl t) v from R.res)
      exact ⟨t, rfl, k _ _ _ _ _ q6 S4 (f12.trans f4) (.bl _)⟩
    · exact q5.elim, fun x F' H' cls d z er => kx x F' H' cls d z (er.back f1)⟩, kx⟩
theorem own_weak (h : PE X e (tOp (rOwnC neg (A.ad C) (spD A 2 df) E) (tO A E ga) (tO A E gb))) : PE X e (tE A E (eOwn neg C df ga gb)) := pe_weak h own_pt
variable {a b : Expr} {pos : Pos}
theorem de_neC (hK : A.K = X.K) (T : EqK X.K (A.ad C) f) (F : FnOk X.prog X.w X.K X.mg X.base (L2.CX X.prog X.w) n f fd ps (spD A 2 df)) (hr : Room (n + 1) X.A) (hb : Binds X.K fd ps []) (hx : Passes (L2.CX X.prog X.w) X E) (h1 : PE X a (tO A E ga)) (h2 : PE X b (tO A E gb)) (hm : behindInMarks .NotEq b = false) :
    PE X (.Compare a [.NotEq] [b] pos) (tE A E (eOwn true C df ga gb)) := own_weak (pe_cmpR (op_neC T F hb hx hr) h1 h2 hm)
theorem de_eqC (hK : A.K = X.K) (T : EqK X.K (A.ad C) f) (F : FnOk X.prog X.w X.K X.mg X.base (L2.CX X.prog X.w) n f fd ps (spD A 2 df)) (hr : Room (n + 1) X.A) (hb : Binds X.K fd ps []) (hx : Passes (L2.CX X.prog X.w) X E) (h1 : PE X a (tO A E ga)) (h2 : PE X b (tO A E gb)) (hm : behindInMarks .Eq b = false) :
    PE X (.Compare a [.Eq] [b] pos) (tE A E (eOwn false C df ga gb)) := own_weak (pe_cmpR (op_eqC T F hb hx (hr.mono (Nat.le_succ _))) h1 h2 hm)
theorem dt_neC (hK : A.K = X.K) (T : EqK X.K (A.ad C) f) (F : FnOk X.prog X.w X.K X.mg X.base (L2.CX X.prog X.w) n f fd ps (spD A 2 df)) (hr : Room (n + 1) X.A) (hb : Binds X.K fd ps []) (hx : Passes (L2.CX X.prog X.w) X E) (h1 : PE X a (tO A E ga)) (h2 : PE X b (tO A E gb)) (hm : behindInMarks .NotEq b = false) :
    PT X (.Compare a [.NotEq] [b] pos) (tT A E (gV (eOwn true C df ga gb))) := dt_test (pt_cmpR (op_neC T F hb hx hr) h1 h2 hm) own_pt
theorem dt_eqC (hK : A.K = X.K) (T : EqK X.K (A.ad C) f) (F : FnOk X.prog X.w X.K X.mg X.base (L2.CX X.prog X.w) n f fd ps (spD A 2 df)) (hr : Room (n + 1) X.A) (hb : Binds X.K fd ps []) (hx : Passes (L2.CX X.prog X.w) X E) (h1 : PE X a (tO A E ga)) (h2 : PE X b (tO A E gb)) (hm : behindInMarks .Eq b = false) :
    PT X (.Compare a [.Eq] [b] pos) (tT A E (gV (eOwn false C df ga gb))) := dt_test (pt_cmpR (op_eqC T F hb hx (hr.mono (Nat.le_succ _))) h1 h2 hm) own_pt
end
end DL
namespace DL
open PySem L2 Evl PySem.Spec PyProof.Rows LamX
/-! ### a, b, c = x, y, z: the first may be owned, the others are frozen -/
def sPar3 (i j l : Nat) (ga gb gc : GE) : GS := fun δ B => ga δ (fun r1 δ1 => gb δ1 (fun r2 δ2 => vw r2 fun d2 => gc δ2 (fun r3 δ3 => vw r3 fun d3 => (isPen r1 = false ∧ notPen δ3 i ∧ notPen (δ3.set i (some r1)) j ∧ notPen ((δ3.set i (some r1)).set j (some (.fz d2))) l) ∧
  B.nx (((δ3.set i (some r1)).set j (some (.fz d2))).set l (some (.fz d3)))) B.ex) B.ex) B.ex
section
variable {A : Am} {F F1 F2 F3 H H1 H2 H3 : Hp} {σ : L2.St} {δ δ1 δ2 δ3 : Env} {i j l : Nat} {r1 : Sl} {v1 v2 v3 : V} {d2 d3 : D}
theorem par3_put (S3 : Stt A F3 H3 σ δ3) (f : Fr σ δ F H σ δ3 F3 H3) (R1 : RvS A σ δ H F3 H3 σ δ3 r1 v1) (h2 : Rep A F3 d2 v2) (h3 : Rep A F3 d3 v3) (n1 : notPen δ3 i) (n2 : notPen (δ3.set i (some r1)) j) (n3 : notPen ((δ3.set i (some r1)).set j (some (.fz d2))) l) :
    Stt A F3 H3 (((σ.set i (some v1)).set j (some v2)).set l (some v3)) (((δ3.set i (some r1)).set j (some (.fz d2))).set l (some (.fz d3))) ∧ Fr σ δ F H (((σ.set i (some v1)).set j (some v2)).set l (some v3)) (((δ3.set i (some r1)).set j (some (.fz d2))).set l (some (.fz d3))) F3 H3 := by
  obtain ⟨S4, f4⟩ := S3.putS (i := i) f R1 n1
  obtain ⟨S5, f5⟩ := S4.putS (i := j) (r := .fz d2) (v := v2) f4 h2 n2
  exact S5.putS (i := l) (r := .fz d3) (v := v3) f5 h3 n3
end
section
variable {X : Cx} {A : Am} {E : XK} {i j l : Nat} {x y z : Str} {a b c : Expr} {ga gb gc : GE} {px py pz pt pos : Pos} {kt k2 pt2}
theorem ds_par3c (hc : X.calm = true) (hN : X.N.Nodup) (hi : X.N[i]? = some x) (hj : X.N[j]? = some y) (hl : X.N[l]? = some z)
    (hx : Loc X.env.scope x) (hy : Loc X.env.scope y) (hz : Loc X.env.scope z) (hfx : X.fn x = true ∨ X.env.scope.names.lookup x = some .local) (hfy : X.fn y = true ∨ X.env.scope.names.lookup y = some .local) (hfz : X.fn z = true ∨ X.env.scope.names.lookup z = some .local)
    (ha : PE X a (tE A E ga)) (hb : PE X b (tE A E gb)) (hcc : PE X c (tE A E gc)) (hsa : starEach [a, b, c] X.env = (false, eval a X.env) :: starEach [b, c] X.env) (hsb : starEach [b, c] X.env = (false, eval b X.env) :: starEach [c] X.env) (hsc : starEach [c] X.env = (false, eval c X.env) :: starEach [] X.env)
    (hs : swapsWithSole [.Tuple [.Name x px, .Name y py, .Name z pz] kt pt] (.Tuple [a, b, c] k2 pt2) pos.line X.env = pure false) (hw : swappedStores [.Tuple [.Name x px, .Name y py, .Name z pz] kt pt] (.Tuple [a, b, c] k2 pt2) X.env = pure none) :
    PS X (.Assign [.Tuple [.Name x px, .Name y py, .Name z pz] kt pt] (.Tuple [a, b, c] k2 pt2) pos) (tS A E (sPar3 i j l ga gb gc)) :=
  ps_weak (ps_asg (pe_tup (pa_cons ha (pa_cons hb (pa_cons hcc pa_nil hsc) hsb) hsa)) (pg_tup (n := 3) hc (pgs_cons (pg_name hN hi hx hfx) (pgs_cons (pg_name hN hj hy hfy) (pgs_cons (pg_name hN hl hz hfz) pgs_nil)))) hs hw) fun D σ H ⟨F, δ, B, S, q, kn, kb, kc, kr, kx⟩ => ⟨F, δ, _, _, S, q, fun r1 δ1 F1 H1 v1 q1 S1 f1 R1 => ⟨F1, δ1, _, _, S1, q1, fun r2 δ2 F2 H2 v2 q2 S2 f2 R2 => by
    obtain ⟨F2', d2, _, S2', f2', hr2, q2'⟩ := frz_tmp S2 f2 R2 rfl q2
    refine ⟨F2', δ2, _, _, S2', q2', fun r3 δ3 F3 H3 v3 q3 S3 f3 R3 => ?_, fun x _ _ _ _ z er => kx x _ _ _ _ z (er.back (f1.trans f2'))⟩
    obtain ⟨F4, d3, _, S4, f4, hr3, ⟨np1, n1, n2, n3⟩, q4⟩ := frz_tmp S3 f3 R3 rfl q3
    refine ⟨by show 3 ≤ sizeLine; rw [sizeLine_eq]; decide, fun p hp => ?_⟩
    refine ⟨p, [v1, v2, v3], rfl, st_of upd_same, rfl, v1, [v2, v3], rfl, v2, [v3], rfl, v3, [], rfl, rfl, ?_⟩
    have m : New A F4 H3 F4 (upd H3 p (.tup [v1, v2, v3])) (.fz .non) .non := ⟨Ex.refl _, Ex.new hp, S4.sub.trans (Ex.new hp), fun _ _ => rfl, fun b ps z => by
      by_cases hb : b = p
      · subst hb; rw [upd_same] at z; cases z
      · rw [upd_ne hb] at z; exact z, .non⟩
    obtain ⟨S5, f5, _⟩ := m.stt S4
    have fl := (f2'.trans f4).trans f5
    obtain ⟨R1', _⟩ := R1.step fl
    have hr2' : Rep A F4 d2 v2 := hr2.mono f4.up
    obtain ⟨S6, f6⟩ := par3_put S5 (f1.trans fl) (show RvS A σ δ H F4 (upd H3 p (.tup [v1, v2, v3])) σ δ3 r1 v1 by cases r1 <;> exact R1') hr2' hr3 n1 n2 n3
    exact kn _ _ _ _ q4 S6 f6, fun x _ _ _ _ z er => kx x _ _ _ _ z (er.back f1)⟩, kx⟩
end
end DL
namespace DL
open PySem L2 Evl PySem.Spec PyProof.Rows LamX
/-! ### d[k], of a dict -/
def dDg : Op2 := fun a b k => match a with
  | .dct kvs => ∃ y d, keyD b = some y ∧ getD' kvs y = some d ∧ k (.fz d)
  | _ => False
def rDg : R2 := fun x y H Q => ∃ a v, x = .ref a ∧ DGet H a y (some v) ∧ Q v H
theorem od_dg {A : Am} : OpD A rDg dDg := fun F H d1 d2 v1 v2 k Q s a1 a2 q h => by
  cases d1 with
  | dct kvs =>
    obtain ⟨y, d, hy, hd, q⟩ := q
    obtain ⟨a, vs, rfl, ha, r⟩ := arg_dct s a1
    have hv := kD_kV hy a2
    subst hv
    obtain ⟨w, hw, hr⟩ := (r.get y).2 d hd
    exact ⟨a, w, rfl, .inl ⟨vs, y, ha, rfl, hw.symm⟩, h _ _ _ _ q (new_fz s hr)⟩
  | _ => exact (q : False).elim
section
variable {X : Cx} {A : Am} {E : XK} {o i : Expr} {ga gb : GO} {pos : Pos}
theorem de_dg (hu : X.A.units + 1 < cLine) (ho : PE X o (tO A E ga)) (hi : PE X i (tO A E gb)) (hs : NoSl i) : PE X (.Subscript o i pos) (tE A E (eBin dDg ga gb)) :=
  de_bin od_dg (pe_dget hu ho hi hs)
end
@[simp] theorem o_dg {kvs : List (D × D)} {b : D} {k : Sl → Prop} : dDg (.dct kvs) b k = ∃ y d, keyD b = some y ∧ getD' kvs y = some d ∧ k (.fz d) := rfl
/-! ### DMi's rules for what came later -/
def augA (i : Nat) (f : Int → Int → Int) (a : Int) (d : D) (δ1 : Env) (P : Env → Prop) : Prop := match d with
  | .int b => notPen δ1 i ∧ P (δ1.set i (some (.fz (.int (f a b)))))
  | _ => False
def popaA (i : Nat) (o : Option (Option Sl)) (d : D) (δ1 : Env) (P : Sl → Env → Prop) : Prop := match o, d with
  | some (some (.ow (.lst ds))), .int n => ∃ k y, (0 ≤ n ∧ n < 1000000000) ∧ n = ((k : Nat) : Int) ∧ ds[k]? = some y ∧ P (.fz y) (δ1.set i (some (.ow (.lst (ds.eraseIdx k)))))
  | _, _ => False
def putlA (i : Nat) (o : Option (Option Sl)) (kd v : D) (δ2 : Env) (P : Env → Prop) : Prop := match o, kd with
  | some (some (.ow (.lst ds))), .int n => ∃ k : Nat, n = (k : Int) ∧ k < ds.length ∧ P (δ2.set i (some (.ow (.lst (ds.set k v)))))
  | _, _ => False
def enA (ds : List D) (k : List D → Prop) : Prop := match ds with
  | [.tup es] => k (enD 0 es)
  | _ => False
def partA (d : D) (k : Option Int → Prop) : Prop := match d with
  | .int i => k (some i)
  | _ => False
section
variable {s : Option Sl} {δ : Env} {B : EndsD} {P : Sl → Env → Prop} {X : DX → Prop} {e : GE} {i j l : Nat} {f : Int → Int → Int} {a : Int} {n : Int} {d v : D} {ds es : List D} {ga gb : GO} {gs : GA} {gk gv ge1 ge2 ge3 : GE} {lo hi : GP} {K : List D → Env → Prop} {Pe : Env → Prop} {Kp : Option Int → Env → Prop} {gi : GI}
@[simp] theorem w_aug : sAug i f e (s :: δ) B = ∃ a, (s :: δ)[i]? = some (some (.fz (.int a))) ∧ e (s :: δ) (fun r δ1 => vw r fun d => augA i f a d δ1 B.nx) B.ex := by unfold sAug augA; rfl
@[simp] theorem w_aug1 {b : Int} : augA i f a (.int b) δ Pe = (notPen δ i ∧ Pe (δ.set i (some (.fz (.int (f a b)))))) := rfl
@[simp] theorem w_popa : mPopA i e (s :: δ) P X = ((∃ ds, (s :: δ)[i]? = some (some (.ow (.lst ds)))) ∧ e (s :: δ) (fun r δ1 => vw r fun d => popaA i δ1[i]? d δ1 P) X) := by unfold mPopA popaA; rfl
@[simp] theorem w_popa1 : popaA i (some (some (.ow (.lst ds)))) (.int n) δ P = ∃ k y, (0 ≤ n ∧ n < 1000000000) ∧ n = ((k : Nat) : Int) ∧ ds[k]? = some y ∧ P (.fz y) (δ.set i (some (.ow (.lst (ds.eraseIdx k))))) := rfl
@[simp] theorem w_putl : sPutL i gk gv (s :: δ) B = gv (s :: δ) (fun r δ1 => vw r fun v => (∃ ds, δ1[i]? = some (some (.ow (.lst ds)))) ∧ gk δ1 (fun r δ2 => vw r fun kd => putlA i δ2[i]? kd v δ2 B.nx) B.ex) B.ex := by unfold sPutL putlA; rfl
@[simp] theorem w_putl1 : putlA i (some (some (.ow (.lst ds)))) (.int n) v δ Pe = ∃ k : Nat, n = (k : Int) ∧ k < ds.length ∧ Pe (δ.set i (some (.ow (.lst (ds.set k v))))) := rfl
@[simp] theorem w_en : iEn gs (s :: δ) K X = gs (s :: δ) (fun hs δ1 => rfx hs fun ds => enA ds fun es => K es δ1) X := by unfold iEn enA; rfl
@[simp] theorem w_en1 {k : List D → Prop} : enA [.tup es] k = k (enD 0 es) := rfl
@[simp] theorem w_pno : pNo (s :: δ) Kp X = Kp none (s :: δ) := rfl
@[simp] theorem w_pso : pSo e (s :: δ) Kp X = e (s :: δ) (fun r δ1 => vw r fun d => partA d fun i => Kp i δ1) X := by unfold pSo partA; rfl
@[simp] theorem w_part {k : Option Int → Prop} : partA (.int n) k = k (some n) := rfl
@[simp] theorem w_sl : eSl ga lo hi (s :: δ) P X = ga (s :: δ) (fun h δ1 => lo δ1 (fun l δ2 => hi δ2 (fun u δ3 => rsl h δ3 fun d => slD d l u fun r => P r δ3) X) X) X := rfl
@[simp] theorem w_sl1 {x y : Option Int} {k : Sl → Prop} : slD (.lst ds) x y k = k (.ow (.lst (cutA ds x y))) := rfl
@[simp] theorem w_sl2 {x y : Option Int} {k : Sl → Prop} : slD (.tup ds) x y k = k (.fz (.tup (cutA ds x y))) := rfl
@[simp] theorem w_lrg : eLRg gi (s :: δ) P X = gi (s :: δ) (fun ds δ1 => ds.length ≤ 100000 ∧ P (.ow (.lst ds)) δ1) X := rfl
@[simp] theorem w_trg : eTRg gi (s :: δ) P X = gi (s :: δ) (fun ds δ1 => ds.length ≤ 100000 ∧ P (.fz (.tup ds)) δ1) X := rfl
@[simp] theorem w_par3 : sPar3 i j l ge1 ge2 ge3 (s :: δ) B = ge1 (s :: δ) (fun r1 δ1 => ge2 δ1 (fun r2 δ2 => vw r2 fun d2 => ge3 δ2 (fun r3 δ3 => vw r3 fun d3 => (isPen r1 = false ∧ notPen δ3 i ∧ notPen (δ3.set i (some r1)) j ∧ notPen ((δ3.set i (some r1)).set j (some (.fz d2))) l) ∧
  B.nx (((δ3.set i (some r1)).set j (some (.fz d2))).set l (some (.fz d3)))) B.ex) B.ex) B.ex := rfl
@[simp] theorem w_own {neg : Bool} {C : Str} {df : DF} : eOwn neg C df ga gb (s :: δ) P X = ga (s :: δ) (fun h1 δ1 => gb δ1 (fun h2 δ2 => rsl h1 δ2 fun d1 => rsl h2 δ2 fun d2 => isI C d1 ∧ isI C d2 ∧ callA df (argS [h1, h2] δ2) (fun r => ∃ t, r = .fz (.bl t) ∧ P (.fz (.bl (xor neg t))) δ2) X) X) X := rfl
@[simp] theorem w_isI {C : Str} {fs : List (Str × D)} : isI C (.ins C fs) = True := by simp [isI]
end
end DL
namespace DL
open PySem L2 Evl PySem.Spec PyProof.Rows LamX
/-! ### a class with an own __eq__, from the written part -/
structure QI (A : Am) (C qual : Str) (st : Stmt) (ps : List Str) : Prop where
  fn : ∃ f fd, EqK A.K (A.ad C) f ∧ Fun A.K "__eq__" qual st f fd ∧ Binds A.K fd ps []
def eqF (K : PySem.W.Frag) (C : Addr) : Addr := match PySem.W.findIn K (.ref C) "__eq__" with
  | some (some (.ref f)) => f
  | _ => 0
def newK (K : PySem.W.Frag) (C : Addr) : String := match slK K C 4 with
  | some (.builtin x) => x
  | _ => ""
def obC (K : PySem.W.Frag) (C : Addr) : Option Obj := some (excClassObj (clK K C).name (clK K C).qualname C (clK K C).ns (clK K C).bases [.type "object"] (clK K C).hasDict (clK K C).slotNames (clK K C).subclasses (clK K C).abstract (clK K C).collection (obK K C).dict (slK K C 0) (slK K C 1) (slK K C 2) (slK K C 3) (slK K C 5) (newK K C))
def esK (K : PySem.W.Frag) (N : Addr) : Array DictEntry := match (obK K N).data with
  | .dict es _ => es
  | _ => #[]
def epK (K : PySem.W.Frag) (N : Addr) : Nat := match (obK K N).data with
  | .dict _ ep => ep
  | _ => 0
def obN (K : PySem.W.Frag) (N : Addr) : Option Obj := some ⟨(obK K N).cls, (obK K N).dict, .dict (esK K N) (epK K N), (obK K N).slots⟩
def keyB (e : DictEntry) : Bool := match e.key with
  | .str _ _ => true
  | _ => false
def eqB (K : PySem.W.Frag) (C : Addr) : Bool := (esK K (clK K C).ns).toList.all keyB && (decide (nsFind (esK K (clK K C).ns) "__eq__" = some (.ref (eqF K C))) && (decide (nsFind (esK K (clK K C).ns) "__ne__" = none) && (PySem.W.isFn K (.ref (eqF K C)) && (decide (PySem.W.findIn K (.ref C) "__eq__" = some (some (.ref (eqF K C)))) && decide ((obK K (eqF K C)).cls = .type "function")))))
theorem keys_of {es : Array DictEntry} (h : es.toList.all keyB = true) : StrKeys es := fun e he => by
  have := List.all_eq_true.mp h e (by simpa using he)
  unfold keyB at this
  split at this
  · rename_i n t hk; exact ⟨n, t, hk⟩
  · cases this
section
variable {K : PySem.W.Frag} {mg : Str → Option Value} {T : List (Addr × Str)} {h : Heap}
theorem qi_mk (X : K.In h) (G : h.Ns mainGlobals mg) {C qual : Str} {st : Stmt} {ps : List Str} (e : nmB K C = true) (lc : K.lookup (adK K C) = obC K (adK K C)) (ln : K.lookup (clK K (adK K C)).ns = obN K (clK K (adK K C)).ns) (b : eqB K (adK K C) = true)
    (l : K.lookup (eqF K (adK K C)) = obF K (eqF K (adK K C)) "__eq__" qual st) (fb : fnB K (eqF K (adK K C)) qual = true) (hb : BindsBy "__eq__" qual st ps) : QI (am K mg T) C qual st ps := by
  have ea := nm_ad (T := T) X G e
  have F := fun_of l fb
  unfold eqB at b
  simp only [Bool.and_eq_true, decide_eq_true_eq] at b
  obtain ⟨b1, b2, b3, b4, b5, b6⟩ := b
  refine ⟨_, _, ?_, F, F.binds hb⟩
  rw [ea]
  refine ⟨⟨_, _, _, _, _, _, _, _, _, _, _, _, _, _, _, _, _, _, _, _, _, lc, ln, keys_of b1, b2, b3⟩, b4, ⟨_, l, ?_⟩, b5⟩
  exact b6
end
end DL
namespace LW
open PySem L2 Evl PySem.Spec PyProof.Rows DL LamX
def top (i : Nat) : Stmt := PySem.Challenge.pw_ledagain_k06_whole_rules_told_well.main.body.getD i (.Pass ⟨0, 0, 0, 0⟩)
abbrev s__law_more_kinds : Stmt := top 52
abbrev s__law_kinds : Stmt := top 51
abbrev s__law_fault : Stmt := top 50
abbrev s_renamed_by : Stmt := top 40
abbrev s_image_by : Stmt := top 37
abbrev s_naming_by : Stmt := top 39
abbrev s_well_by : Stmt := top 41
abbrev s_is_primitive_by : Stmt := top 38
abbrev s_need_any : Stmt := top 35
abbrev s_need_rule : Stmt := top 36
abbrev s_is_integer : Stmt := top 20
abbrev s_is_index : Stmt := top 24
abbrev s_is_list : Stmt := top 23
abbrev s_is_indexes : Stmt := top 25
abbrev s_is_word : Stmt := top 28
abbrev s_are_images : Stmt := top 34
abbrev s_as_tuples : Stmt := top 22
abbrev s_Rule_init : Stmt := inClass (top 33) 0
abbrev s_told_well : Stmt := top 42
abbrev s_naming : Stmt := top 43
abbrev s__law_one : Stmt := top 64
abbrev s__law_draw : Stmt := top 46
abbrev s__law_pick : Stmt := top 47
abbrev s__law_bad_rule : Stmt := top 60
abbrev s__law_image : Stmt := top 53
abbrev s__law_row_start : Stmt := top 54
abbrev s__law_is : Stmt := top 49
abbrev s__law_renamed : Stmt := top 62
abbrev s__law_names : Stmt := top 61
abbrev s__law_shuffled : Stmt := top 48
abbrev s__law_known_images : Stmt := top 58
abbrev s__law_led_lot : Stmt := top 57
abbrev s__law_is_primitive : Stmt := top 56
abbrev s__law_any_images : Stmt := top 55
abbrev s__law_images : Stmt := top 59
abbrev s_Rule_eq : Stmt := inClass (top 33) 1
abbrev s__law_right : Stmt := top 63
abbrev s__law_pen : Stmt := top 45
abbrev s_law : Stmt := top 65
abbrev s_BadRule_init : Stmt := inClass (top 5) 0
abbrev s_Unlike_init : Stmt := inClass (top 13) 0
def CLK : List Str := ["BadNumber", "BadRow", "BadTable", "BadRule", "BadWord", "BadBook", "BadName", "BadText", "NoPlace", "NoName", "TakenName", "Unlike", "NotThere", "TooMany", "NotKept", "NothingToUndo", "NothingToRedo"]
def FL : List Str := ["witness", "promise", "limit", "many", "what", "paper", "word", "line"]
def bsT (C C2 : Str) : Option Bool := if CLK.contains C2 then some (C == C2) else none
structure Txt (A : Am) : Prop where
  f__law_more_kinds : FI A "_law_more_kinds" s__law_more_kinds ["e"]
  f__law_kinds : FI A "_law_kinds" s__law_kinds ["e"]
  f__law_fault : FI A "_law_fault" s__law_fault ["call"]
  f_renamed_by : FI A "renamed_by" s_renamed_by ["images", "names"]
  f_image_by : FI A "image_by" s_image_by ["images", "word"]
  f_naming_by : FI A "naming_by" s_naming_by ["images"]
  f_well_by : FI A "well_by" s_well_by ["images"]
  f_is_primitive_by : FI A "is_primitive_by" s_is_primitive_by ["images"]
  f_need_any : FI A "need_any" s_need_any ["rule", "what"]
  f_need_rule : FI A "need_rule" s_need_rule ["rule", "what"]
  f_is_integer : FI A "is_integer" s_is_integer ["value"]
  f_is_index : FI A "is_index" s_is_index ["value", "many"]
  f_is_list : FI A "is_list" s_is_list ["value"]
  f_is_indexes : FI A "is_indexes" s_is_indexes ["value", "many"]
  f_is_word : FI A "is_word" s_is_word ["value", "many"]
  f_are_images : FI A "are_images" s_are_images ["value"]
  f_as_tuples : FI A "as_tuples" s_as_tuples ["value"]
  f_told_well : FI A "told_well" s_told_well ["rule"]
  f_naming : FI A "naming" s_naming ["rule"]
  f__law_one : FI A "_law_one" s__law_one ["call", "rule"]
  f__law_draw : FI A "_law_draw" s__law_draw ["pen", "many"]
  f__law_pick : FI A "_law_pick" s__law_pick ["pen", "some"]
  f__law_bad_rule : FI A "_law_bad_rule" s__law_bad_rule ["pen"]
  f__law_image : FI A "_law_image" s__law_image ["images", "word"]
  f__law_row_start : FI A "_law_row_start" s__law_row_start ["images", "long"]
  f__law_is : FI A "_law_is" s__law_is ["told", "due"]
  f__law_renamed : FI A "_law_renamed" s__law_renamed ["images", "names"]
  f__law_names : FI A "_law_names" s__law_names ["images"]
  f__law_shuffled : FI A "_law_shuffled" s__law_shuffled ["pen", "some"]
  f__law_known_images : FI A "_law_known_images" s__law_known_images ["pen"]
  f__law_led_lot : FI A "_law_led_lot" s__law_led_lot ["images", "lot"]
  f__law_is_primitive : FI A "_law_is_primitive" s__law_is_primitive ["images"]
  f__law_any_images : FI A "_law_any_images" s__law_any_images ["pen", "most"]
  f__law_images : FI A "_law_images" s__law_images ["pen", "most"]
  q_Rule : QI A "Rule" "Rule.__eq__" s_Rule_eq ["self", "other"]
  f__law_right : FI A "_law_right" s__law_right ["pen"]
  f__law_pen : FI A "_law_pen" s__law_pen ["script"]
  f_law : FI A "law" s_law ["script"]
  r_Rule : RI A "Rule" "Rule.__init__" s_Rule_init ["self", "images"]
  x_BadRule : XI1 A "BadRule" "BadRule.__init__" s_BadRule_init ["self", "what"] "what"
  x_Unlike : XI1 A "Unlike" "Unlike.__init__" s_Unlike_init ["self", "what"] "what"
  pin : A.pin = none
  m_RowError : A.mg "RowError" = some (.ref (A.ad "RowError"))
  xk_BadRule : XKit A "BadRule" FL (bsT "BadRule")
  xk_Unlike : XKit A "Unlike" FL (bsT "Unlike")
  b_isinstance : A.mg "isinstance" = none
  b_ValueError : A.mg "ValueError" = none
  b_len : A.mg "len" = none
  b_tuple : A.mg "tuple" = none
  b_enumerate : A.mg "enumerate" = none
  b_range : A.mg "range" = none
  b_all : A.mg "all" = none
  b_dict : A.mg "dict" = none
  b_bool : A.mg "bool" = none
  b_int : A.mg "int" = none
  b_list : A.mg "list" = none
  b_sum : A.mg "sum" = none
  b_str : A.mg "str" = none
  b_sorted : A.mg "sorted" = none
  b_set : A.mg "set" = none
  c_MOST_LONG : ∃ u, A.mg "MOST_LONG" = some u ∧ RelV (.int 4000) u
  c_MOST_ALL : ∃ u, A.mg "MOST_ALL" = some u ∧ RelV (.int 24) u
  c_MOST_IMAGE : ∃ u, A.mg "MOST_IMAGE" = some u ∧ RelV (.int 8) u
  c_MOST_IMAGES : ∃ u, A.mg "MOST_IMAGES" = some u ∧ RelV (.int 5) u
  k_NothingToRedo : ∃ u, A.mg "NothingToRedo" = some u ∧ RelV (.ref (A.ad "NothingToRedo")) u
  k_NothingToUndo : ∃ u, A.mg "NothingToUndo" = some u ∧ RelV (.ref (A.ad "NothingToUndo")) u
  k_NotKept : ∃ u, A.mg "NotKept" = some u ∧ RelV (.ref (A.ad "NotKept")) u
  k_TooMany : ∃ u, A.mg "TooMany" = some u ∧ RelV (.ref (A.ad "TooMany")) u
  k_NotThere : ∃ u, A.mg "NotThere" = some u ∧ RelV (.ref (A.ad "NotThere")) u
  k_Unlike : ∃ u, A.mg "Unlike" = some u ∧ RelV (.ref (A.ad "Unlike")) u
  k_TakenName : ∃ u, A.mg "TakenName" = some u ∧ RelV (.ref (A.ad "TakenName")) u
  k_NoName : ∃ u, A.mg "NoName" = some u ∧ RelV (.ref (A.ad "NoName")) u
  k_NoPlace : ∃ u, A.mg "NoPlace" = some u ∧ RelV (.ref (A.ad "NoPlace")) u
  k_BadText : ∃ u, A.mg "BadText" = some u ∧ RelV (.ref (A.ad "BadText")) u
  k_BadName : ∃ u, A.mg "BadName" = some u ∧ RelV (.ref (A.ad "BadName")) u
  k_BadBook : ∃ u, A.mg "BadBook" = some u ∧ RelV (.ref (A.ad "BadBook")) u
  k_BadWord : ∃ u, A.mg "BadWord" = some u ∧ RelV (.ref (A.ad "BadWord")) u
  k_BadRule : ∃ u, A.mg "BadRule" = some u ∧ RelV (.ref (A.ad "BadRule")) u
  k_BadTable : ∃ u, A.mg "BadTable" = some u ∧ RelV (.ref (A.ad "BadTable")) u
  k_BadRow : ∃ u, A.mg "BadRow" = some u ∧ RelV (.ref (A.ad "BadRow")) u
  k_BadNumber : ∃ u, A.mg "BadNumber" = some u ∧ RelV (.ref (A.ad "BadNumber")) u
  k_Rule : ∃ u, A.mg "Rule" = some u ∧ RelV (.ref (A.ad "Rule")) u
  d_images : ∀ C ∈ (["Rule"] : List Str), FldOk A C "images"
  cls : ∀ C ∈ (["Rule"] : List Str), ClsOk A C
structure Bas (A : Am) (base : Heap) : Prop where
  c__law_one : ∃ cc ct, CodeAt A base (A.ad "_law_one") cc ct "_law_one"
theorem sc_BadRule_init : FnScope ["self", "what"] ["self", "what"] (defScope s_BadRule_init) := ⟨rfl, rfl, rfl, by decide +kernel, rfl, by decide +kernel, by decide +kernel⟩
theorem okx_BadRule {P : Program} {w : World} {base : Heap} {A : Am} {f : Addr} {fd : FuncData} (F : Fun A.K "__init__" "BadRule.__init__" s_BadRule_init f fd) : FnOk P w A.K A.mg base (L2.CX P w) 1 f fd ["self", "what"] (spI1 A.K "what") :=
  ok_i1 (k := 0) F sc_BadRule_init rfl (fun cdv Ar outer s H E => (pss_one (ps_ost (pv 0) (pv 1))))
theorem sc_Unlike_init : FnScope ["self", "what"] ["self", "what"] (defScope s_Unlike_init) := ⟨rfl, rfl, rfl, by decide +kernel, rfl, by decide +kernel, by decide +kernel⟩
theorem okx_Unlike {P : Program} {w : World} {base : Heap} {A : Am} {f : Addr} {fd : FuncData} (F : Fun A.K "__init__" "Unlike.__init__" s_Unlike_init f fd) : FnOk P w A.K A.mg base (L2.CX P w) 1 f fd ["self", "what"] (spI1 A.K "what") :=
  ok_i1 (k := 0) F sc_Unlike_init rfl (fun cdv Ar outer s H E => (pss_one (ps_ost (pv 0) (pv 1))))
theorem sc__law_more_kinds : FnScope ["e", "found"] ["e"] (defScope s__law_more_kinds) := ⟨rfl, rfl, rfl, by decide +kernel, rfl, by decide +kernel, by decide +kernel⟩
abbrev gP__law_more_kinds (bs : Str → Option Bool) (bt : String → Option Bool) : GS := (sSeq (sSet 1 (eLst aNil))
  (sSeq (sIf (gTr (eCa (nIsP bs bt) (aCons (oB 0) (aCons (oE (eC (.top "NoName"))) aNil)))) sNever sNil)
  (sSeq (sIf (gTr (eCa (nIsP bs bt) (aCons (oB 0) (aCons (oE (eC (.top "TakenName"))) aNil)))) sNever sNil)
  (sSeq (sIf (gTr (eCa (nIsP bs bt) (aCons (oB 0) (aCons (oE (eC (.top "Unlike"))) aNil)))) (sSeq (sDrop (mApp 1 (eTup (aCons (oE (eC (.str "unlike"))) (aCons (oE (eXf "what" (eVar 0))) aNil)))))
  sNil) sNil)
  (sSeq (sIf (gTr (eCa (nIsP bs bt) (aCons (oB 0) (aCons (oE (eC (.top "NotThere"))) aNil)))) (sSeq (sDrop (mApp 1 (eTup (aCons (oE (eC (.str "notthere"))) (aCons (oE (eXf "paper" (eVar 0))) aNil)))))
  sNil) sNil)
  (sSeq (sIf (gTr (eCa (nIsP bs bt) (aCons (oB 0) (aCons (oE (eC (.top "TooMany"))) aNil)))) (sSeq (sDrop (mApp 1 (eTup (aCons (oE (eC (.str "many"))) (aCons (oE (eXf "what" (eVar 0))) (aCons (oE (eXf "many" (eVar 0))) (aCons (oE (eXf "limit" (eVar 0))) aNil)))))))
  sNil) sNil)
  (sSeq (sIf (gTr (eCa (nIsP bs bt) (aCons (oB 0) (aCons (oE (eC (.top "NotKept"))) aNil)))) (sSeq (sDrop (mApp 1 (eTup (aCons (oE (eC (.str "kept"))) (aCons (oE (eXf "promise" (eVar 0))) (aCons (oE (eXf "witness" (eVar 0))) aNil))))))
  sNil) sNil)
  (sSeq (sIf (gTr (eCa (nIsP bs bt) (aCons (oB 0) (aCons (oE (eC (.top "NothingToUndo"))) aNil)))) (sSeq (sDrop (mApp 1 (eTup (aCons (oE (eC (.str "undo"))) aNil))))
  sNil) sNil)
  (sSeq (sIf (gTr (eCa (nIsP bs bt) (aCons (oB 0) (aCons (oE (eC (.top "NothingToRedo"))) aNil)))) (sSeq (sDrop (mApp 1 (eTup (aCons (oE (eC (.str "redo"))) aNil))))
  sNil) sNil)
  (sSeq (sRet (eMv 1))
  sNil))))))))))
def dfP__law_more_kinds (bs : Str → Option Bool) (bt : String → Option Bool) : DF := dfOf 1 (gP__law_more_kinds bs bt)
theorem okP__law_more_kinds {P : Program} {w : World} {base : Heap} {A : Am} (T : Txt A) {fd : FuncData} (F : Fun A.K "_law_more_kinds" "_law_more_kinds" s__law_more_kinds (A.ad "_law_more_kinds") fd) : FnP P w A.K A.mg base (L2.CX P w) 1 (A.ad "_law_more_kinds") fd ["e"] (spP A (["witness", "promise", "limit", "many", "what", "paper", "word", "line"] : List Str) 1 dfP__law_more_kinds) := by
  refine fnDP (k := 0) F sc__law_more_kinds (fun cdv Ar outer s H E p D dd bs bt hr hD => ?_)
  have hpn : p ∈ (L2H.cxH (L2.CX P w) P w A.K A.mg base ["e", "found"] "_law_more_kinds" (defScope s__law_more_kinds) (A.ad "_law_more_kinds") cdv Ar outer s H E p).pn := List.mem_cons_self
  exact (ds_cons (ds_set (i := 1) sc__law_more_kinds.nd rfl (by first | exact .inl rfl | exact .inr rfl) (de_lst (pe_lst da_nil)))
    (ds_cons (ds_if (dt_true rfl (de_ca (cd_isP rfl rfl hD.h1 hD.h2) (pe_callB (call_isP hD.pc hpn) rfl T.b_isinstance (by decide +kernel) (da_cons (do_b (pv 0)) (da_cons (do_e (de_c (pe_gl rfl T.k_NoName) (fun _ => .top _))) da_nil)))) (fun _ => rfl)) ds_never ds_nil)
    (ds_cons (ds_if (dt_true rfl (de_ca (cd_isP rfl rfl hD.h1 hD.h2) (pe_callB (call_isP hD.pc hpn) rfl T.b_isinstance (by decide +kernel) (da_cons (do_b (pv 0)) (da_cons (do_e (de_c (pe_gl rfl T.k_TakenName) (fun _ => .top _))) da_nil)))) (fun _ => rfl)) ds_never ds_nil)
    (ds_cons (ds_if (dt_true rfl (de_ca (cd_isP rfl rfl hD.h1 hD.h2) (pe_callB (call_isP hD.pc hpn) rfl T.b_isinstance (by decide +kernel) (da_cons (do_b (pv 0)) (da_cons (do_e (de_c (pe_gl rfl T.k_Unlike) (fun _ => .top _))) da_nil)))) (fun _ => rfl)) (ds_cons (ds_expr (de_app (pv 1) (de_tup (pe_tup (da_cons (do_e (de_c pe_str (fun _ => .str _))) (da_cons (do_e (de_xf rfl hD.pc hpn (hD.hf "what" (by simp)) (de_var (pv 0)))) da_nil))))))
    ds_nil) ds_nil)
    (ds_cons (ds_if (dt_true rfl (de_ca (cd_isP rfl rfl hD.h1 hD.h2) (pe_callB (call_isP hD.pc hpn) rfl T.b_isinstance (by decide +kernel) (da_cons (do_b (pv 0)) (da_cons (do_e (de_c (pe_gl rfl T.k_NotThere) (fun _ => .top _))) da_nil)))) (fun _ => rfl)) (ds_cons (ds_expr (de_app (pv 1) (de_tup (pe_tup (da_cons (do_e (de_c pe_str (fun _ => .str _))) (da_cons (do_e (de_xf rfl hD.pc hpn (hD.hf "paper" (by simp)) (de_var (pv 0)))) da_nil))))))
    ds_nil) ds_nil)
    (ds_cons (ds_if (dt_true rfl (de_ca (cd_isP rfl rfl hD.h1 hD.h2) (pe_callB (call_isP hD.pc hpn) rfl T.b_isinstance (by decide +kernel) (da_cons (do_b (pv 0)) (da_cons (do_e (de_c (pe_gl rfl T.k_TooMany) (fun _ => .top _))) da_nil)))) (fun _ => rfl)) (ds_cons (ds_expr (de_app (pv 1) (de_tup (pe_tup (da_cons (do_e (de_c pe_str (fun _ => .str _))) (da_cons (do_e (de_xf rfl hD.pc hpn (hD.hf "what" (by simp)) (de_var (pv 0)))) (da_cons (do_e (de_xf rfl hD.pc hpn (hD.hf "many" (by simp)) (de_var (pv 0)))) (da_cons (do_e (de_xf rfl hD.pc hpn (hD.hf "limit" (by simp)) (de_var (pv 0)))) da_nil))))))))
    ds_nil) ds_nil)
    (ds_cons (ds_if (dt_true rfl (de_ca (cd_isP rfl rfl hD.h1 hD.h2) (pe_callB (call_isP hD.pc hpn) rfl T.b_isinstance (by decide +kernel) (da_cons (do_b (pv 0)) (da_cons (do_e (de_c (pe_gl rfl T.k_NotKept) (fun _ => .top _))) da_nil)))) (fun _ => rfl)) (ds_cons (ds_expr (de_app (pv 1) (de_tup (pe_tup (da_cons (do_e (de_c pe_str (fun _ => .str _))) (da_cons (do_e (de_xf rfl hD.pc hpn (hD.hf "promise" (by simp)) (de_var (pv 0)))) (da_cons (do_e (de_xf rfl hD.pc hpn (hD.hf "witness" (by simp)) (de_var (pv 0)))) da_nil)))))))
    ds_nil) ds_nil)
    (ds_cons (ds_if (dt_true rfl (de_ca (cd_isP rfl rfl hD.h1 hD.h2) (pe_callB (call_isP hD.pc hpn) rfl T.b_isinstance (by decide +kernel) (da_cons (do_b (pv 0)) (da_cons (do_e (de_c (pe_gl rfl T.k_NothingToUndo) (fun _ => .top _))) da_nil)))) (fun _ => rfl)) (ds_cons (ds_expr (de_app (pv 1) (de_tup (pe_tup (da_cons (do_e (de_c pe_str (fun _ => .str _))) da_nil)))))
    ds_nil) ds_nil)
    (ds_cons (ds_if (dt_true rfl (de_ca (cd_isP rfl rfl hD.h1 hD.h2) (pe_callB (call_isP hD.pc hpn) rfl T.b_isinstance (by decide +kernel) (da_cons (do_b (pv 0)) (da_cons (do_e (de_c (pe_gl rfl T.k_NothingToRedo) (fun _ => .top _))) da_nil)))) (fun _ => rfl)) (ds_cons (ds_expr (de_app (pv 1) (de_tup (pe_tup (da_cons (do_e (de_c pe_str (fun _ => .str _))) da_nil)))))
    ds_nil) ds_nil)
    (ds_cons (ds_ret (de_mv (pv 1)))
    ds_nil))))))))))
theorem sc__law_kinds : FnScope ["e", "found"] ["e"] (defScope s__law_kinds) := ⟨rfl, rfl, rfl, by decide +kernel, rfl, by decide +kernel, by decide +kernel⟩
abbrev gP__law_kinds (bs : Str → Option Bool) (bt : String → Option Bool) : GS := (sSeq (sSet 1 (eLst aNil))
  (sSeq (sIf (gTr (eCa (nIsP bs bt) (aCons (oB 0) (aCons (oE (eC (.top "BadNumber"))) aNil)))) sNever sNil)
  (sSeq (sIf (gTr (eCa (nIsP bs bt) (aCons (oB 0) (aCons (oE (eC (.top "BadRow"))) aNil)))) sNever sNil)
  (sSeq (sIf (gTr (eCa (nIsP bs bt) (aCons (oB 0) (aCons (oE (eC (.top "BadTable"))) aNil)))) (sSeq (sDrop (mApp 1 (eTup (aCons (oE (eC (.str "table"))) (aCons (oE (eXf "what" (eVar 0))) aNil)))))
  sNil) sNil)
  (sSeq (sIf (gTr (eCa (nIsP bs bt) (aCons (oB 0) (aCons (oE (eC (.top "BadRule"))) aNil)))) (sSeq (sDrop (mApp 1 (eTup (aCons (oE (eC (.str "rule"))) (aCons (oE (eXf "what" (eVar 0))) aNil)))))
  sNil) sNil)
  (sSeq (sIf (gTr (eCa (nIsP bs bt) (aCons (oB 0) (aCons (oE (eC (.top "BadWord"))) aNil)))) sNever sNil)
  (sSeq (sIf (gTr (eCa (nIsP bs bt) (aCons (oB 0) (aCons (oE (eC (.top "BadBook"))) aNil)))) (sSeq (sDrop (mApp 1 (eTup (aCons (oE (eC (.str "book"))) (aCons (oE (eXf "what" (eVar 0))) aNil)))))
  sNil) sNil)
  (sSeq (sIf (gTr (eCa (nIsP bs bt) (aCons (oB 0) (aCons (oE (eC (.top "BadName"))) aNil)))) sNever sNil)
  (sSeq (sIf (gTr (eCa (nIsP bs bt) (aCons (oB 0) (aCons (oE (eC (.top "BadText"))) aNil)))) (sSeq (sDrop (mApp 1 (eTup (aCons (oE (eC (.str "text"))) (aCons (oE (eXf "line" (eVar 0))) (aCons (oE (eXf "word" (eVar 0))) aNil))))))
  sNil) sNil)
  (sSeq (sIf (gTr (eCa (nIsP bs bt) (aCons (oB 0) (aCons (oE (eC (.top "NoPlace"))) aNil)))) sNever sNil)
  (sSeq (sRet (eBin dAdd (oB 1) (oE (eCallN 1 (dfP__law_more_kinds bs bt) (aCons (oE (eVar 0)) aNil)))))
  sNil)))))))))))
def dfP__law_kinds (bs : Str → Option Bool) (bt : String → Option Bool) : DF := dfOf 1 (gP__law_kinds bs bt)
theorem okP__law_kinds {P : Program} {w : World} {base : Heap} {A : Am} (T : Txt A) {fd : FuncData} (F : Fun A.K "_law_kinds" "_law_kinds" s__law_kinds (A.ad "_law_kinds") fd) : FnP P w A.K A.mg base (L2.CX P w) 2 (A.ad "_law_kinds") fd ["e"] (spP A (["witness", "promise", "limit", "many", "what", "paper", "word", "line"] : List Str) 1 dfP__law_kinds) := by
  obtain ⟨fd__law_more_kinds, F__law_more_kinds, B__law_more_kinds⟩ := T.f__law_more_kinds.fn
  have GP__law_more_kinds := okP__law_more_kinds (P := P) (w := w) (base := base) T F__law_more_kinds
  refine fnDP (k := 1) F sc__law_kinds (fun cdv Ar outer s H E p D dd bs bt hr hD => ?_)
  have hpn : p ∈ (L2H.cxH (L2.CX P w) P w A.K A.mg base ["e", "found"] "_law_kinds" (defScope s__law_kinds) (A.ad "_law_kinds") cdv Ar outer s H E p).pn := List.mem_cons_self
  exact (ds_cons (ds_set (i := 1) sc__law_kinds.nd rfl (by first | exact .inl rfl | exact .inr rfl) (de_lst (pe_lst da_nil)))
    (ds_cons (ds_if (dt_true rfl (de_ca (cd_isP rfl rfl hD.h1 hD.h2) (pe_callB (call_isP hD.pc hpn) rfl T.b_isinstance (by decide +kernel) (da_cons (do_b (pv 0)) (da_cons (do_e (de_c (pe_gl rfl T.k_BadNumber) (fun _ => .top _))) da_nil)))) (fun _ => rfl)) ds_never ds_nil)
    (ds_cons (ds_if (dt_true rfl (de_ca (cd_isP rfl rfl hD.h1 hD.h2) (pe_callB (call_isP hD.pc hpn) rfl T.b_isinstance (by decide +kernel) (da_cons (do_b (pv 0)) (da_cons (do_e (de_c (pe_gl rfl T.k_BadRow) (fun _ => .top _))) da_nil)))) (fun _ => rfl)) ds_never ds_nil)
    (ds_cons (ds_if (dt_true rfl (de_ca (cd_isP rfl rfl hD.h1 hD.h2) (pe_callB (call_isP hD.pc hpn) rfl T.b_isinstance (by decide +kernel) (da_cons (do_b (pv 0)) (da_cons (do_e (de_c (pe_gl rfl T.k_BadTable) (fun _ => .top _))) da_nil)))) (fun _ => rfl)) (ds_cons (ds_expr (de_app (pv 1) (de_tup (pe_tup (da_cons (do_e (de_c pe_str (fun _ => .str _))) (da_cons (do_e (de_xf rfl hD.pc hpn (hD.hf "what" (by simp)) (de_var (pv 0)))) da_nil))))))
    ds_nil) ds_nil)
    (ds_cons (ds_if (dt_true rfl (de_ca (cd_isP rfl rfl hD.h1 hD.h2) (pe_callB (call_isP hD.pc hpn) rfl T.b_isinstance (by decide +kernel) (da_cons (do_b (pv 0)) (da_cons (do_e (de_c (pe_gl rfl T.k_BadRule) (fun _ => .top _))) da_nil)))) (fun _ => rfl)) (ds_cons (ds_expr (de_app (pv 1) (de_tup (pe_tup (da_cons (do_e (de_c pe_str (fun _ => .str _))) (da_cons (do_e (de_xf rfl hD.pc hpn (hD.hf "what" (by simp)) (de_var (pv 0)))) da_nil))))))
    ds_nil) ds_nil)
    (ds_cons (ds_if (dt_true rfl (de_ca (cd_isP rfl rfl hD.h1 hD.h2) (pe_callB (call_isP hD.pc hpn) rfl T.b_isinstance (by decide +kernel) (da_cons (do_b (pv 0)) (da_cons (do_e (de_c (pe_gl rfl T.k_BadWord) (fun _ => .top _))) da_nil)))) (fun _ => rfl)) ds_never ds_nil)
    (ds_cons (ds_if (dt_true rfl (de_ca (cd_isP rfl rfl hD.h1 hD.h2) (pe_callB (call_isP hD.pc hpn) rfl T.b_isinstance (by decide +kernel) (da_cons (do_b (pv 0)) (da_cons (do_e (de_c (pe_gl rfl T.k_BadBook) (fun _ => .top _))) da_nil)))) (fun _ => rfl)) (ds_cons (ds_expr (de_app (pv 1) (de_tup (pe_tup (da_cons (do_e (de_c pe_str (fun _ => .str _))) (da_cons (do_e (de_xf rfl hD.pc hpn (hD.hf "what" (by simp)) (de_var (pv 0)))) da_nil))))))
    ds_nil) ds_nil)
    (ds_cons (ds_if (dt_true rfl (de_ca (cd_isP rfl rfl hD.h1 hD.h2) (pe_callB (call_isP hD.pc hpn) rfl T.b_isinstance (by decide +kernel) (da_cons (do_b (pv 0)) (da_cons (do_e (de_c (pe_gl rfl T.k_BadName) (fun _ => .top _))) da_nil)))) (fun _ => rfl)) ds_never ds_nil)
    (ds_cons (ds_if (dt_true rfl (de_ca (cd_isP rfl rfl hD.h1 hD.h2) (pe_callB (call_isP hD.pc hpn) rfl T.b_isinstance (by decide +kernel) (da_cons (do_b (pv 0)) (da_cons (do_e (de_c (pe_gl rfl T.k_BadText) (fun _ => .top _))) da_nil)))) (fun _ => rfl)) (ds_cons (ds_expr (de_app (pv 1) (de_tup (pe_tup (da_cons (do_e (de_c pe_str (fun _ => .str _))) (da_cons (do_e (de_xf rfl hD.pc hpn (hD.hf "line" (by simp)) (de_var (pv 0)))) (da_cons (do_e (de_xf rfl hD.pc hpn (hD.hf "word" (by simp)) (de_var (pv 0)))) da_nil)))))))
    ds_nil) ds_nil)
    (ds_cons (ds_if (dt_true rfl (de_ca (cd_isP rfl rfl hD.h1 hD.h2) (pe_callB (call_isP hD.pc hpn) rfl T.b_isinstance (by decide +kernel) (da_cons (do_b (pv 0)) (da_cons (do_e (de_c (pe_gl rfl T.k_NoPlace) (fun _ => .top _))) da_nil)))) (fun _ => rfl)) ds_never ds_nil)
    (ds_cons (ds_ret (de_bin (od_add rfl) (pe_op op_add4 (do_b (pv 1)) (do_e (de_callP GP__law_more_kinds (hr.mono (by decide)) hpn hD rfl T.f__law_more_kinds.mg T.f__law_more_kinds.kp B__law_more_kinds (passE (takes_of rfl rfl rfl rfl)) (da_cons (do_e (de_var (pv 0))) da_nil))))))
    ds_nil)))))))))))
theorem sc__law_fault : FnScope ["call", "found", "e"] ["call"] (defScope s__law_fault) := ⟨rfl, rfl, rfl, by decide +kernel, rfl, by decide +kernel, by decide +kernel⟩
abbrev gF (bs : Str → Option Bool) (bt : String → Option Bool) : GS := (sSeq (sSet 1 (eCallN 1 (dfP__law_kinds bs bt) (aCons (oE (eVar 2)) aNil)))
  (sSeq (sSet 1 (eIf (gAnd (gV (eBin dEq (oE (eCa nLen (aCons (oB 1) aNil))) (oE (eC (.int 1))))) (gTr (eCa (nIsP bs bt) (aCons (oB 2) (aCons (oE (eC (.ty "ValueError"))) aNil))))) (eBin dIx (oB 1) (oE (eC (.int 0)))) (eTup (aCons (oE (eC (.str "several"))) (aCons (oE (eCa nLen (aCons (oB 1) aNil))) aNil)))))
  sNil))
def kd_BadRule : List (Str × D) → Option D
  | [(n0, d0)] => if ((n0 == "what") && d0.nox) = true then some (.tup [.str "rule", d0]) else none
  | _ => none
theorem kd_BadRule_eq {fs : List (Str × D)} {d : D} (h : kd_BadRule fs = some d) : ∃ d0 : D, fs = [(("what" : Str), d0)] ∧ d = .tup [.str "rule", d0] ∧ d0.nox = true := by
  unfold kd_BadRule at h
  split at h
  · split at h
    · rename_i hc
      simp only [Bool.and_eq_true, beq_iff_eq] at hc
      cases h
      simp [hc]
    · cases h
  · cases h
def kd_Unlike : List (Str × D) → Option D
  | [(n0, d0)] => if ((n0 == "what") && d0.nox) = true then some (.tup [.str "unlike", d0]) else none
  | _ => none
theorem kd_Unlike_eq {fs : List (Str × D)} {d : D} (h : kd_Unlike fs = some d) : ∃ d0 : D, fs = [(("what" : Str), d0)] ∧ d = .tup [.str "unlike", d0] ∧ d0.nox = true := by
  unfold kd_Unlike at h
  split at h
  · split at h
    · rename_i hc
      simp only [Bool.and_eq_true, beq_iff_eq] at hc
      cases h
      simp [hc]
    · cases h
  · cases h
theorem bs_BadRule_BadNumber : bsT "BadRule" "BadNumber" = some false := by decide +kernel
theorem bs_BadRule_BadRow : bsT "BadRule" "BadRow" = some false := by decide +kernel
theorem bs_BadRule_BadTable : bsT "BadRule" "BadTable" = some false := by decide +kernel
theorem bs_BadRule_BadRule : bsT "BadRule" "BadRule" = some true := by decide +kernel
theorem bs_BadRule_BadWord : bsT "BadRule" "BadWord" = some false := by decide +kernel
theorem bs_BadRule_BadBook : bsT "BadRule" "BadBook" = some false := by decide +kernel
theorem bs_BadRule_BadName : bsT "BadRule" "BadName" = some false := by decide +kernel
theorem bs_BadRule_BadText : bsT "BadRule" "BadText" = some false := by decide +kernel
theorem bs_BadRule_NoPlace : bsT "BadRule" "NoPlace" = some false := by decide +kernel
theorem bs_BadRule_NoName : bsT "BadRule" "NoName" = some false := by decide +kernel
theorem bs_BadRule_TakenName : bsT "BadRule" "TakenName" = some false := by decide +kernel
theorem bs_BadRule_Unlike : bsT "BadRule" "Unlike" = some false := by decide +kernel
theorem bs_BadRule_NotThere : bsT "BadRule" "NotThere" = some false := by decide +kernel
theorem bs_BadRule_TooMany : bsT "BadRule" "TooMany" = some false := by decide +kernel
theorem bs_BadRule_NotKept : bsT "BadRule" "NotKept" = some false := by decide +kernel
theorem bs_BadRule_NothingToUndo : bsT "BadRule" "NothingToUndo" = some false := by decide +kernel
theorem bs_BadRule_NothingToRedo : bsT "BadRule" "NothingToRedo" = some false := by decide +kernel
theorem bs_Unlike_BadNumber : bsT "Unlike" "BadNumber" = some false := by decide +kernel
theorem bs_Unlike_BadRow : bsT "Unlike" "BadRow" = some false := by decide +kernel
theorem bs_Unlike_BadTable : bsT "Unlike" "BadTable" = some false := by decide +kernel
theorem bs_Unlike_BadRule : bsT "Unlike" "BadRule" = some false := by decide +kernel
theorem bs_Unlike_BadWord : bsT "Unlike" "BadWord" = some false := by decide +kernel
theorem bs_Unlike_BadBook : bsT "Unlike" "BadBook" = some false := by decide +kernel
theorem bs_Unlike_BadName : bsT "Unlike" "BadName" = some false := by decide +kernel
theorem bs_Unlike_BadText : bsT "Unlike" "BadText" = some false := by decide +kernel
theorem bs_Unlike_NoPlace : bsT "Unlike" "NoPlace" = some false := by decide +kernel
theorem bs_Unlike_NoName : bsT "Unlike" "NoName" = some false := by decide +kernel
theorem bs_Unlike_TakenName : bsT "Unlike" "TakenName" = some false := by decide +kernel
theorem bs_Unlike_Unlike : bsT "Unlike" "Unlike" = some true := by decide +kernel
theorem bs_Unlike_NotThere : bsT "Unlike" "NotThere" = some false := by decide +kernel
theorem bs_Unlike_TooMany : bsT "Unlike" "TooMany" = some false := by decide +kernel
theorem bs_Unlike_NotKept : bsT "Unlike" "NotKept" = some false := by decide +kernel
theorem bs_Unlike_NothingToUndo : bsT "Unlike" "NothingToUndo" = some false := by decide +kernel
theorem bs_Unlike_NothingToRedo : bsT "Unlike" "NothingToRedo" = some false := by decide +kernel
theorem bt_V : btV "ValueError" = some true := by decide +kernel
def kdT (y : DX) : Option D := if y.cls = "BadRule" then kd_BadRule y.fs else if y.cls = "Unlike" then kd_Unlike y.fs else none
theorem hdl_ok {A : Am} (T : Txt A) : HdlOk A (A.ad "RowError") FL gF kdT := by
  refine hdl_mk bsT T.pin fun y d h => ?_
  obtain ⟨c, fs⟩ := y
  unfold kdT at h
  split at h
  · rename_i e
    have e : c = "BadRule" := e
    subst e
    obtain ⟨d0, rfl, rfl, xd0⟩ := kd_BadRule_eq h
    refine ⟨by simp [D.nox, D.noxs, xd0], by simp, T.xk_BadRule, ?_⟩
    simp [gF, dfP__law_kinds, dfOf, gP__law_kinds, dfP__law_more_kinds, gP__law_more_kinds, dEq, atI, ixN, bt_V, sSeq, sNil, sSet, sRet, sRetN, sIf, sDrop, eMv, eVar, eC, eBin, eUn, eCa, eCallN, eTup, eLst, eDct0, oE, oB, aNil, aCons, rslv, rsl, rsls, rfx, vw, gV, gTr, gAnd, gOr, gNot, eAnd, eOr, eNot, eIf, eChain, truD, notPen, dAdd, dSub, dMul, dDiv, dMod, dNeg, dCmp, dIx, dIn2, dIsN, dIsB, D.isNon, D.isBl, nLen, nList, nTup, nSum, nAll, nAny, nDict, nIsi, isiL, isi1, tyD, insIn, clsIn, DL.up1, argS, iE, iR1, iR2, itms, gNm, npOk, wipeD, tYesD, eFld, eMake, mApp, mExt, mPop, seqD, sPar2, sPut, keyD, nIsP, eXf, tys7, bs_BadRule_BadNumber, bs_BadRule_BadRow, bs_BadRule_BadTable, bs_BadRule_BadRule, bs_BadRule_BadWord, bs_BadRule_BadBook, bs_BadRule_BadName, bs_BadRule_BadText, bs_BadRule_NoPlace, bs_BadRule_NoName, bs_BadRule_TakenName, bs_BadRule_Unlike, bs_BadRule_NotThere, bs_BadRule_TooMany, bs_BadRule_NotKept, bs_BadRule_NothingToUndo, bs_BadRule_NothingToRedo]
  split at h
  · rename_i e
    have e : c = "Unlike" := e
    subst e
    obtain ⟨d0, rfl, rfl, xd0⟩ := kd_Unlike_eq h
    refine ⟨by simp [D.nox, D.noxs, xd0], by simp, T.xk_Unlike, ?_⟩
    simp [gF, dfP__law_kinds, dfOf, gP__law_kinds, dfP__law_more_kinds, gP__law_more_kinds, dEq, atI, ixN, bt_V, sSeq, sNil, sSet, sRet, sRetN, sIf, sDrop, eMv, eVar, eC, eBin, eUn, eCa, eCallN, eTup, eLst, eDct0, oE, oB, aNil, aCons, rslv, rsl, rsls, rfx, vw, gV, gTr, gAnd, gOr, gNot, eAnd, eOr, eNot, eIf, eChain, truD, notPen, dAdd, dSub, dMul, dDiv, dMod, dNeg, dCmp, dIx, dIn2, dIsN, dIsB, D.isNon, D.isBl, nLen, nList, nTup, nSum, nAll, nAny, nDict, nIsi, isiL, isi1, tyD, insIn, clsIn, DL.up1, argS, iE, iR1, iR2, itms, gNm, npOk, wipeD, tYesD, eFld, eMake, mApp, mExt, mPop, seqD, sPar2, sPut, keyD, nIsP, eXf, tys7, bs_Unlike_BadNumber, bs_Unlike_BadRow, bs_Unlike_BadTable, bs_Unlike_BadRule, bs_Unlike_BadWord, bs_Unlike_BadBook, bs_Unlike_BadName, bs_Unlike_BadText, bs_Unlike_NoPlace, bs_Unlike_NoName, bs_Unlike_TakenName, bs_Unlike_Unlike, bs_Unlike_NotThere, bs_Unlike_TooMany, bs_Unlike_NotKept, bs_Unlike_NothingToUndo, bs_Unlike_NothingToRedo]
  cases h
theorem su_fault {A : Am} (T : Txt A) (P : Program) (w : World) (base : Heap) (Ar : Around) (stack : List PySem.Env) (cdg : Value) (s : Shared) (H : Hp) (a : Addr) (oe : Obj) (pn : List (Addr × Obj)) (D dd : Addr) (bs : Str → Option Bool) (bt : String → Option Bool) (hr : L2H.RoomH 5 Ar) (hD : PinD A (a, oe) D dd FL bs bt) :
    PSs ((cxOf C8.CX0 P w A.K A.mg base ["call", "found", "e"] "_law_fault" (defScope s__law_fault) (A.ad "_law_fault") cdg Ar stack s H C8.E0).nox.suite a ((a, oe) :: pn)) (hSuite s__law_fault) (tS (A.at a dd) EF (gF bs bt)) := by
  obtain ⟨fd__law_kinds, F__law_kinds, B__law_kinds⟩ := T.f__law_kinds.fn
  have GP__law_kinds := okP__law_kinds (P := P) (w := w) (base := base) T F__law_kinds
  have hr : L2H.RoomH 4 ((cxOf C8.CX0 P w A.K A.mg base ["call", "found", "e"] "_law_fault" (defScope s__law_fault) (A.ad "_law_fault") cdg Ar stack s H C8.E0).nox.suite a ((a, oe) :: pn)).A := by
    have := hr.deeper (envOfC "_law_fault" (defScope s__law_fault) s.heap.objs.size (A.ad "_law_fault") cdg)
    exact ⟨this.dp, this.un⟩
  have hpn : (a, oe) ∈ ((cxOf C8.CX0 P w A.K A.mg base ["call", "found", "e"] "_law_fault" (defScope s__law_fault) (A.ad "_law_fault") cdg Ar stack s H C8.E0).nox.suite a ((a, oe) :: pn)).pn := List.mem_cons_self
  exact (ds_cons (ds_set (i := 1) sc__law_fault.nd rfl (by first | exact .inl rfl | exact .inr rfl) (de_callP GP__law_kinds (hr.mono (by decide)) hpn hD rfl T.f__law_kinds.mg T.f__law_kinds.kp B__law_kinds passF (da_cons (do_e (de_var (pv 2))) da_nil)))
    (ds_cons (ds_set (i := 1) sc__law_fault.nd rfl (by first | exact .inl rfl | exact .inr rfl) (de_if (PW.pt (dw_and (dt_cmpR (od_eq rfl) (op_eqD (h64 hr)) (do_e (de_ca (cd_len rfl) (pe_callB cr_lenA rfl T.b_len (by decide +kernel) (da_cons (do_b (pv 1)) da_nil)))) (do_e (de_c pe_int (fun _ => .int _))) (nomark _)) (dw_and1 (dt_true rfl (de_ca (cd_isP rfl rfl hD.h1 hD.h2) (pe_callB (call_isP hD.pc hpn) rfl T.b_isinstance (by decide +kernel) (da_cons (do_b (pv 2)) (da_cons (do_e (de_c (pe_bty rfl T.b_ValueError (by decide +kernel)) (fun _ => .ty _))) da_nil)))) (fun _ => rfl))))) (de_bin (od_ix rfl) (pe_ix ix_seq (do_b (pv 1)) (do_e (de_c pe_int (fun _ => .int _))) (fun _ _ => rfl))) (de_tup (pe_tup (da_cons (do_e (de_c pe_str (fun _ => .str _))) (da_cons (do_e (de_ca (cd_len rfl) (pe_callB cr_lenA rfl T.b_len (by decide +kernel) (da_cons (do_b (pv 1)) da_nil)))) da_nil))))))
    ds_nil))
theorem flt_ok {A : Am} (T : Txt A) : FltOk A 5 FL gF kdT :=
  flt_mk (n := 4) T.f__law_fault T.m_RowError sc__law_fault rfl rfl rfl rfl rfl (su_fault T) (hdl_ok T)
theorem sc_renamed_by : FnScope ["images", "names", "found", "letter", "image", "one"] ["images", "names"] (defScope s_renamed_by) := ⟨rfl, rfl, rfl, by decide +kernel, rfl, by decide +kernel, by decide +kernel⟩
def g_renamed_by_1 : GS := (sSeq (sRet (eCa nTup (aCons (oB 2) aNil)))
  sNil)
def g_renamed_by_2 : GS := (sSeq (sPutL 2 (eBin dIx (oB 1) (oB 3)) (eCa nTup (aCons (oE (eLc (iE (eVar 4)) (gNm 5) tYesD (eBin dIx (oB 1) (oB 5)) [5])) aNil)))
  sNil)
def g_renamed_by_3 : GS := (sSeq (sFor (iEn (aCons (oE (eVar 0)) aNil)) (gTp 2 (ggCons (gNm 3) (ggCons (gNm 4) ggNil))) g_renamed_by_2)
  g_renamed_by_1)
abbrev g_renamed_by : GS := (sSeq (sSet 2 (eBin dMul (oE (eLst (aCons (oE (eTup aNil)) aNil))) (oE (eCa nLen (aCons (oB 0) aNil)))))
  g_renamed_by_3)
def df_renamed_by : DF := dfOf 4 g_renamed_by
theorem ok_renamed_by {P : Program} {w : World} {base : Heap} {A : Am} (T : Txt A) {fd : FuncData} (F : Fun A.K "renamed_by" "renamed_by" s_renamed_by (A.ad "renamed_by") fd) : FnOk P w A.K A.mg base (L2.CX P w) 1 (A.ad "renamed_by") fd ["images", "names"] (spD A 2 df_renamed_by) := by
  refine fnD (k := 0) F sc_renamed_by (fun cdv Ar outer s H E hr => ?_) (fun _ _ _ _ _ h => h)
  exact (ds_cons (ds_set (i := 2) sc_renamed_by.nd rfl (by first | exact .inl rfl | exact .inr rfl) (de_bin (od_mul rfl) (pe_op op_mul3 (do_e (de_lst (pe_lst (da_cons (do_e (de_tup (pe_tup da_nil))) da_nil)))) (do_e (de_ca (cd_len rfl) (pe_callB cr_lenA rfl T.b_len (by decide +kernel) (da_cons (do_b (pv 0)) da_nil)))))))
    (ds_cons (ds_for (vs := [3, 4]) (passes_of rfl) rfl (di_en rfl rfl T.b_enumerate (da_cons (do_e (de_var (pv 0))) da_nil)) (dg_tup rfl rfl (dgs_cons (dg_name (by decide) sc_renamed_by.nd rfl (by first | exact .inl rfl | exact .inr rfl)) (dgs_cons (dg_name (by decide) sc_renamed_by.nd rfl (by first | exact .inl rfl | exact .inr rfl)) dgs_nil))) (ds_cons (ds_putL (i := 2) (pv 2) (de_bin (od_ix rfl) (pe_ix ix_seq (do_b (pv 1)) (do_b (pv 3)) (fun _ _ => rfl))) (de_ca (cd_tup rfl) (pe_callTy call_tuple_of rfl T.b_tuple (by decide +kernel) (da_cons (do_e (de_lc (own := [("one", 5)]) rfl sc_renamed_by.nd (di_e rfl (de_var (pv 4))) (blkOk_by (N := ["images", "names", "found", "letter", "image", "one"]) (sc := defScope s_renamed_by) (own := [("one", 5)]) (by decide +kernel)) (fun _ _ _ _ _ => (dg_name (by decide) sc_renamed_by.nd rfl (by first | exact .inl rfl | exact .inr rfl))) (fun _ _ _ _ _ => dts_nil) (fun _ _ _ _ _ => (de_bin (od_ix rfl) (pe_ix ix_seq (do_b (pv 1)) (do_b (pv 5)) (fun _ _ => rfl)))))) da_nil))))
    ds_nil))
    (ds_cons (ds_ret (de_ca (cd_tup rfl) (pe_callTy call_tuple_of rfl T.b_tuple (by decide +kernel) (da_cons (do_b (pv 2)) da_nil))))
    ds_nil)))
theorem sc_image_by : FnScope ["images", "word", "found", "letter"] ["images", "word"] (defScope s_image_by) := ⟨rfl, rfl, rfl, by decide +kernel, rfl, by decide +kernel, by decide +kernel⟩
def g_image_by_1 : GS := (sSeq (sRet (eCa nTup (aCons (oB 2) aNil)))
  sNil)
def g_image_by_2 : GS := (sSeq (sDrop (mExt 2 (eBin dIx (oB 0) (oB 3))))
  sNil)
def g_image_by_3 : GS := (sSeq (sFor (iE (eVar 1)) (gNm 3) g_image_by_2)
  g_image_by_1)
abbrev g_image_by : GS := (sSeq (sSet 2 (eLst aNil))
  g_image_by_3)
def df_image_by : DF := dfOf 2 g_image_by
theorem ok_image_by {P : Program} {w : World} {base : Heap} {A : Am} (T : Txt A) {fd : FuncData} (F : Fun A.K "image_by" "image_by" s_image_by (A.ad "image_by") fd) : FnOk P w A.K A.mg base (L2.CX P w) 1 (A.ad "image_by") fd ["images", "word"] (spD A 2 df_image_by) := by
  refine fnD (k := 0) F sc_image_by (fun cdv Ar outer s H E hr => ?_) (fun _ _ _ _ _ h => h)
  exact (ds_cons (ds_set (i := 2) sc_image_by.nd rfl (by first | exact .inl rfl | exact .inr rfl) (de_lst (pe_lst da_nil)))
    (ds_cons (ds_for (vs := [3]) (passes_of rfl) rfl (di_e rfl (de_var (pv 1))) (dg_name (by decide) sc_image_by.nd rfl (by first | exact .inl rfl | exact .inr rfl)) (ds_cons (ds_expr (de_ext rfl (pv 2) (de_bin (od_ix rfl) (pe_ix ix_seq (do_b (pv 0)) (do_b (pv 3)) (fun _ _ => rfl)))))
    ds_nil))
    (ds_cons (ds_ret (de_ca (cd_tup rfl) (pe_callTy call_tuple_of rfl T.b_tuple (by decide +kernel) (da_cons (do_b (pv 2)) da_nil))))
    ds_nil)))
theorem sc_naming_by : FnScope ["images", "found", "row", "at", "letter"] ["images"] (defScope s_naming_by) := ⟨rfl, rfl, rfl, by decide +kernel, rfl, by decide +kernel, by decide +kernel⟩
def g_naming_by_1 : GS := (sSeq (sRet (eCa nTup (aCons (oE (eLc (iR1 (aCons (oE (eCa nLen (aCons (oB 0) aNil))) aNil)) (gNm 4) tYesD (eBin dDg (oB 1) (oB 4)) [4])) aNil)))
  sNil)
def g_naming_by_2 : GS := (sSeq (sAug 3 (fun a b => a + b) (eC (.int 1)))
  sNil)
def g_naming_by_3 : GS := (sSeq (sIf (gV (eBin (dIn2 true) (oE (eBin dIx (oB 2) (oB 3))) (oB 1))) (sSeq (sPut 1 (eBin dIx (oB 2) (oB 3)) (eCa nLen (aCons (oB 1) aNil)))
  sNil) sNil)
  g_naming_by_2)
def g_naming_by_4 : GS := (sSeq (sIf (gV (eBin dEq (oB 3) (oE (eCa nLen (aCons (oB 2) aNil))))) (sSeq (sSet 2 (eCallN 2 df_image_by (aCons (oE (eVar 0)) (aCons (oE (eVar 2)) aNil))))
  sNil) sNil)
  g_naming_by_3)
def g_naming_by_5 : GS := (sSeq (sWhile (gV (eBin (dCmp fun i j => decide (i < j)) (oE (eCa nLen (aCons (oB 1) aNil))) (oE (eCa nLen (aCons (oB 0) aNil))))) g_naming_by_4)
  g_naming_by_1)
abbrev g_naming_by : GS := (sSeq (sPar3 1 2 3 eDct0 (eBin dIx (oB 0) (oE (eC (.int 0)))) (eC (.int 0)))
  g_naming_by_5)
def df_naming_by : DF := dfOf 4 g_naming_by
theorem ok_naming_by {P : Program} {w : World} {base : Heap} {A : Am} (T : Txt A) {fd : FuncData} (F : Fun A.K "naming_by" "naming_by" s_naming_by (A.ad "naming_by") fd) : FnOk P w A.K A.mg base (L2.CX P w) 2 (A.ad "naming_by") fd ["images"] (spD A 1 df_naming_by) := by
  obtain ⟨fd_image_by, F_image_by, B_image_by⟩ := T.f_image_by.fn
  have G_image_by := ok_image_by (P := P) (w := w) (base := base) T F_image_by
  refine fnD (k := 1) F sc_naming_by (fun cdv Ar outer s H E hr => ?_) (fun _ _ _ _ _ h => h)
  exact (ds_cons (ds_par3c (i := 1) (j := 2) (l := 3) rfl sc_naming_by.nd rfl rfl rfl (by first | exact .inl rfl | exact .inr rfl) (by first | exact .inl rfl | exact .inr rfl) (by first | exact .inl rfl | exact .inr rfl) (by first | exact .inl rfl | exact .inr rfl) (by first | exact .inl rfl | exact .inr rfl) (by first | exact .inl rfl | exact .inr rfl) de_dct0 (de_bin (od_ix rfl) (pe_ix ix_seq (do_b (pv 0)) (do_e (de_c pe_int (fun _ => .int _))) (fun _ _ => rfl))) (de_c pe_int (fun _ => .int _)) rfl rfl rfl rfl rfl)
    (ds_cons (ds_while (passes_of rfl) (dt_cmpR (od_cmp fun i j => decide (i < j)) op_lt (do_e (de_ca (cd_len rfl) (pe_callB cr_lenA rfl T.b_len (by decide +kernel) (da_cons (do_b (pv 1)) da_nil)))) (do_e (de_ca (cd_len rfl) (pe_callB cr_lenA rfl T.b_len (by decide +kernel) (da_cons (do_b (pv 0)) da_nil)))) (nomark _)) (ds_cons (ds_if (dt_cmpR (od_eq rfl) (op_eqD (u64 hr)) (do_b (pv 3)) (do_e (de_ca (cd_len rfl) (pe_callB cr_lenA rfl T.b_len (by decide +kernel) (da_cons (do_b (pv 2)) da_nil)))) (nomark _)) (ds_cons (ds_set (i := 2) sc_naming_by.nd rfl (by first | exact .inl rfl | exact .inr rfl) (de_call G_image_by (hr.mono (by decide)) rfl T.f_image_by.mg T.f_image_by.kp B_image_by (passE (takes_of rfl rfl rfl rfl)) (da_cons (do_e (de_var (pv 0))) (da_cons (do_e (de_var (pv 2))) da_nil))))
    ds_nil) ds_nil)
    (ds_cons (ds_if (dt_cmpR (od_in rfl true) (op_notInA (u65 hr)) (do_e (de_bin (od_ix rfl) (pe_ix ix_seq (do_b (pv 2)) (do_b (pv 3)) (fun _ _ => rfl)))) (do_b (pv 1)) (by with_unfolding_all rfl)) (ds_cons (ds_put (i := 1) (u1 hr) (pv 1) (de_bin (od_ix rfl) (pe_ix ix_seq (do_b (pv 2)) (do_b (pv 3)) (fun _ _ => rfl))) (de_ca (cd_len rfl) (pe_callB cr_lenA rfl T.b_len (by decide +kernel) (da_cons (do_b (pv 1)) da_nil))))
    ds_nil) ds_nil)
    (ds_cons (ds_aug (i := 3) sc_naming_by.nd rfl (by first | exact .inl rfl | exact .inr rfl) (de_c pe_int (fun _ => .int _)) ip_add)
    ds_nil))))
    (ds_cons (ds_ret (de_ca (cd_tup rfl) (pe_callTy call_tuple_of rfl T.b_tuple (by decide +kernel) (da_cons (do_e (de_lc (own := [("letter", 4)]) rfl sc_naming_by.nd (di_r1 rfl T.b_range (da_cons (do_e (de_ca (cd_len rfl) (pe_callB cr_lenA rfl T.b_len (by decide +kernel) (da_cons (do_b (pv 0)) da_nil)))) da_nil)) (blkOk_by (N := ["images", "found", "row", "at", "letter"]) (sc := defScope s_naming_by) (own := [("letter", 4)]) (by decide +kernel)) (fun _ _ _ _ _ => (dg_name (by decide) sc_naming_by.nd rfl (by first | exact .inl rfl | exact .inr rfl))) (fun _ _ _ _ _ => dts_nil) (fun _ _ _ _ _ => (de_dg (u1 hr) (do_b (pv 1)) (do_b (pv 4)) (fun _ _ => rfl))))) da_nil))))
    ds_nil)))
theorem sc_well_by : FnScope ["images"] ["images"] (defScope s_well_by) := ⟨rfl, rfl, rfl, by decide +kernel, rfl, by decide +kernel, by decide +kernel⟩
abbrev g_well_by : GS := (sSeq (sRet (eCallN 2 df_renamed_by (aCons (oE (eVar 0)) (aCons (oE (eCallN 1 df_naming_by (aCons (oE (eVar 0)) aNil))) aNil))))
  sNil)
def df_well_by : DF := dfOf 0 g_well_by
theorem ok_well_by {P : Program} {w : World} {base : Heap} {A : Am} (T : Txt A) {fd : FuncData} (F : Fun A.K "well_by" "well_by" s_well_by (A.ad "well_by") fd) : FnOk P w A.K A.mg base (L2.CX P w) 3 (A.ad "well_by") fd ["images"] (spD A 1 df_well_by) := by
  obtain ⟨fd_renamed_by, F_renamed_by, B_renamed_by⟩ := T.f_renamed_by.fn
  have G_renamed_by := ok_renamed_by (P := P) (w := w) (base := base) T F_renamed_by
  obtain ⟨fd_naming_by, F_naming_by, B_naming_by⟩ := T.f_naming_by.fn
  have G_naming_by := ok_naming_by (P := P) (w := w) (base := base) T F_naming_by
  refine fnD (k := 2) F sc_well_by (fun cdv Ar outer s H E hr => ?_) (fun _ _ _ _ _ h => h)
  exact (ds_cons (ds_ret (de_call G_renamed_by (hr.mono (by decide)) rfl T.f_renamed_by.mg T.f_renamed_by.kp B_renamed_by (passE (takes_of rfl rfl rfl rfl)) (da_cons (do_e (de_var (pv 0))) (da_cons (do_e (de_call G_naming_by (hr.mono (by decide)) rfl T.f_naming_by.mg T.f_naming_by.kp B_naming_by (passE (takes_of rfl rfl rfl rfl)) (da_cons (do_e (de_var (pv 0))) da_nil))) da_nil))))
    ds_nil)
theorem sc_is_primitive_by : FnScope ["images", "many", "here", "lap", "image", "one", "goal"] ["images"] (defScope s_is_primitive_by) := ⟨rfl, rfl, rfl, by decide +kernel, rfl, by decide +kernel, by decide +kernel⟩
def g_is_primitive_by_1 : GS := (sSeq (sRet (eCa nAll (aCons (oE (eLc (iE (eVar 2)) (gNm 5) tYesD (eBin dEq (oE (eCa nLen (aCons (oB 5) aNil))) (oB 1)) [5])) aNil)))
  sNil)
def g_is_primitive_by_2 : GS := (sSeq (sSet 2 (eLc (iE (eVar 0)) (gNm 4) tYesD (eCa nDict (aCons (oE (eLc2 (iE (eVar 4)) (gNm 5) tYesD (iE (eBin dIx (oB 2) (oB 5))) (gNm 6) tYesD (eTup (aCons (oE (eVar 6)) (aCons (oE (eC (.bl true))) aNil))) [5, 6] [6])) aNil)) [4]))
  sNil)
def g_is_primitive_by_3 : GS := (sSeq (sIf (gTr (eCa nAll (aCons (oE (eLc (iE (eVar 2)) (gNm 5) tYesD (eBin dEq (oE (eCa nLen (aCons (oB 5) aNil))) (oB 1)) [5])) aNil))) (sSeq (sRet (eC (.bl true)))
  sNil) sNil)
  g_is_primitive_by_2)
def g_is_primitive_by_4 : GS := (sSeq (sFor (iR1 (aCons (oE (eBin dMul (oB 1) (oB 1))) aNil)) (gNm 3) g_is_primitive_by_3)
  g_is_primitive_by_1)
def g_is_primitive_by_5 : GS := (sSeq (sSet 2 (eLc (iE (eVar 0)) (gNm 4) tYesD (eCa nDict (aCons (oE (eLc (iE (eVar 4)) (gNm 5) tYesD (eTup (aCons (oE (eVar 5)) (aCons (oE (eC (.bl true))) aNil))) [5])) aNil)) [4]))
  g_is_primitive_by_4)
abbrev g_is_primitive_by : GS := (sSeq (sSet 1 (eCa nLen (aCons (oB 0) aNil)))
  g_is_primitive_by_5)
def df_is_primitive_by : DF := dfOf 6 g_is_primitive_by
theorem ok_is_primitive_by {P : Program} {w : World} {base : Heap} {A : Am} (T : Txt A) {fd : FuncData} (F : Fun A.K "is_primitive_by" "is_primitive_by" s_is_primitive_by (A.ad "is_primitive_by") fd) : FnOk P w A.K A.mg base (L2.CX P w) 1 (A.ad "is_primitive_by") fd ["images"] (spD A 1 df_is_primitive_by) := by
  refine fnD (k := 0) F sc_is_primitive_by (fun cdv Ar outer s H E hr => ?_) (fun _ _ _ _ _ h => h)
  exact (ds_cons (ds_set (i := 1) sc_is_primitive_by.nd rfl (by first | exact .inl rfl | exact .inr rfl) (de_ca (cd_len rfl) (pe_callB cr_lenA rfl T.b_len (by decide +kernel) (da_cons (do_b (pv 0)) da_nil))))
    (ds_cons (ds_set (i := 2) sc_is_primitive_by.nd rfl (by first | exact .inl rfl | exact .inr rfl) (de_lc (own := [("image", 4)]) rfl sc_is_primitive_by.nd (di_e rfl (de_var (pv 0))) (blkOk_by (N := ["images", "many", "here", "lap", "image", "one", "goal"]) (sc := defScope s_is_primitive_by) (own := [("image", 4)]) (by decide +kernel)) (fun _ _ _ _ _ => (dg_name (by decide) sc_is_primitive_by.nd rfl (by first | exact .inl rfl | exact .inr rfl))) (fun _ _ _ _ _ => dts_nil) (fun _ _ _ _ _ => (de_ca (cd_dict rfl) (pe_callTy (cr_dictP rfl) rfl T.b_dict (by decide +kernel) (da_cons (do_e (de_lc (own := [("one", 5)]) rfl sc_is_primitive_by.nd (di_e rfl (de_var (pv 4))) (blkOk_by  (own := [("one", 5)]) (by kernel_rfl)) (fun _ _ _ _ _ => (dg_name (by decide) sc_is_primitive_by.nd rfl (by first | exact .inl rfl | exact .inr rfl))) (fun _ _ _ _ _ => dts_nil) (fun _ _ _ _ _ => (de_tup (pe_tup (da_cons (do_e (de_var (pv 5))) (da_cons (do_e (de_c pe_bl (fun _ => .bl _))) da_nil))))))) da_nil))))))
    (ds_cons (ds_for (vs := [3]) (passes_of rfl) rfl (di_r1 rfl T.b_range (da_cons (do_e (de_bin (od_mul rfl) (pe_op op_mul3 (do_b (pv 1)) (do_b (pv 1))))) da_nil)) (dg_name (by decide) sc_is_primitive_by.nd rfl (by first | exact .inl rfl | exact .inr rfl)) (ds_cons (ds_if (dt_true rfl (de_ca (cd_all rfl) (pe_callB (cr_all rfl) rfl T.b_all (by decide +kernel) (da_cons (do_e (de_lc (own := [("one", 5)]) rfl sc_is_primitive_by.nd (di_e rfl (de_var (pv 2))) (blkOk_by (N := ["images", "many", "here", "lap", "image", "one", "goal"]) (sc := defScope s_is_primitive_by) (own := [("one", 5)]) (by decide +kernel)) (fun _ _ _ _ _ => (dg_name (by decide) sc_is_primitive_by.nd rfl (by first | exact .inl rfl | exact .inr rfl))) (fun _ _ _ _ _ => dts_nil) (fun _ _ _ _ _ => (de_cmpR (od_eq rfl) (op_eqD (u64 hr)) (do_e (de_ca (cd_len rfl) (pe_callB cr_lenA rfl T.b_len (by decide +kernel) (da_cons (do_b (pv 5)) da_nil)))) (do_b (pv 1)) (nomark _))))) da_nil))) (fun _ => rfl)) (ds_cons (ds_ret (de_c pe_bl (fun _ => .bl _)))
    ds_nil) ds_nil)
    (ds_cons (ds_set (i := 2) sc_is_primitive_by.nd rfl (by first | exact .inl rfl | exact .inr rfl) (de_lc (own := [("image", 4)]) rfl sc_is_primitive_by.nd (di_e rfl (de_var (pv 0))) (blkOk_by (N := ["images", "many", "here", "lap", "image", "one", "goal"]) (sc := defScope s_is_primitive_by) (own := [("image", 4)]) (by decide +kernel)) (fun _ _ _ _ _ => (dg_name (by decide) sc_is_primitive_by.nd rfl (by first | exact .inl rfl | exact .inr rfl))) (fun _ _ _ _ _ => dts_nil) (fun _ _ _ _ _ => (de_ca (cd_dict rfl) (pe_callTy (cr_dictP rfl) rfl T.b_dict (by decide +kernel) (da_cons (do_e (de_lc2 (own := [("one", 5), ("goal", 6)]) rfl sc_is_primitive_by.nd (di_e rfl (de_var (pv 4))) (blkOk_by  (own := [("one", 5), ("goal", 6)]) (by kernel_rfl)) (vs1 := [6]) (by decide) (fun _ _ _ _ _ => (dg_name (by decide) sc_is_primitive_by.nd rfl (by first | exact .inl rfl | exact .inr rfl))) (fun _ _ _ _ _ => dts_nil) (fun _ _ _ _ _ => (di_e rfl (de_bin (od_ix rfl) (pe_ix ix_seq (do_b (pv 2)) (do_b (pv 5)) (fun _ _ => rfl))))) (fun _ _ _ _ _ => (dg_name (by decide) sc_is_primitive_by.nd rfl (by first | exact .inl rfl | exact .inr rfl))) (fun _ _ _ _ _ => dts_nil) (fun _ _ _ _ _ => (de_tup (pe_tup (da_cons (do_e (de_var (pv 6))) (da_cons (do_e (de_c pe_bl (fun _ => .bl _))) da_nil))))))) da_nil))))))
    ds_nil)))
    (ds_cons (ds_ret (de_ca (cd_all rfl) (pe_callB (cr_all rfl) rfl T.b_all (by decide +kernel) (da_cons (do_e (de_lc (own := [("one", 5)]) rfl sc_is_primitive_by.nd (di_e rfl (de_var (pv 2))) (blkOk_by (N := ["images", "many", "here", "lap", "image", "one", "goal"]) (sc := defScope s_is_primitive_by) (own := [("one", 5)]) (by decide +kernel)) (fun _ _ _ _ _ => (dg_name (by decide) sc_is_primitive_by.nd rfl (by first | exact .inl rfl | exact .inr rfl))) (fun _ _ _ _ _ => dts_nil) (fun _ _ _ _ _ => (de_cmpR (od_eq rfl) (op_eqD (u64 hr)) (do_e (de_ca (cd_len rfl) (pe_callB cr_lenA rfl T.b_len (by decide +kernel) (da_cons (do_b (pv 5)) da_nil)))) (do_b (pv 1)) (nomark _))))) da_nil))))
    ds_nil))))
theorem sc_need_any : FnScope ["rule", "what"] ["rule", "what"] (defScope s_need_any) := ⟨rfl, rfl, rfl, by decide +kernel, rfl, by decide +kernel, by decide +kernel⟩
def g_need_any_1 : GS := (sSeq (sRet (eFld ["Rule"] "images" (eVar 0)))
  sNil)
abbrev g_need_any : GS := (sSeq (sIf (gNot (gTr (eCa (nIsi (["Rule"] : List Str)) (aCons (oB 0) (aCons (oE (eC (.top "Rule"))) aNil))))) (sSeq (sRaise "BadRule" ["what"] (aCons (oE (eVar 1)) aNil))
  sNil) sNil)
  g_need_any_1)
def df_need_any : DF := dfOf 0 g_need_any
theorem ok_need_any {P : Program} {w : World} {base : Heap} {A : Am} (T : Txt A) {fd : FuncData} (F : Fun A.K "need_any" "need_any" s_need_any (A.ad "need_any") fd) : FnOk P w A.K A.mg base (L2.CX P w) 3 (A.ad "need_any") fd ["rule", "what"] (spD A 2 df_need_any) := by
  obtain ⟨ff_BadRule, fdx_BadRule, IN_BadRule, TY_BadRule, FX_BadRule, BX_BadRule⟩ := T.x_BadRule.fn
  have GX_BadRule := okx_BadRule (P := P) (w := w) (base := base) FX_BadRule
  refine fnD (k := 2) F sc_need_any (fun cdv Ar outer s H E hr => ?_) (fun _ _ _ _ _ h => h)
  exact (ds_cons (ds_if (dt_not (dt_true rfl (de_ca (cd_isi rfl T.cls) (pe_callB cr_isiA rfl T.b_isinstance (by decide +kernel) (da_cons (do_b (pv 0)) (da_cons (do_e (de_c (pe_gl rfl T.k_Rule) (fun _ => .top _))) da_nil)))) (fun _ => rfl))) (ds_cons (ds_raise1 T.x_BadRule.ok T.x_BadRule.no1 IN_BadRule TY_BadRule GX_BadRule (hr.mono (by decide)) BX_BadRule rfl T.x_BadRule.mg rfl (takes_of rfl rfl rfl rfl) passF (da_cons (do_e (de_var (pv 1))) da_nil))
    ds_nil) ds_nil)
    (ds_cons (ds_ret (de_fld rfl T.d_images (de_var (pv 0))))
    ds_nil))
theorem sc_need_rule : FnScope ["rule", "what", "images"] ["rule", "what"] (defScope s_need_rule) := ⟨rfl, rfl, rfl, by decide +kernel, rfl, by decide +kernel, by decide +kernel⟩
def g_need_rule_1 : GS := (sSeq (sRet (eMv 2))
  sNil)
def g_need_rule_2 : GS := (sSeq (sIf (gNot (gTr (eCallN 1 df_is_primitive_by (aCons (oE (eVar 2)) aNil)))) (sSeq (sRaise "Unlike" ["what"] (aCons (oE (eVar 1)) aNil))
  sNil) sNil)
  g_need_rule_1)
abbrev g_need_rule : GS := (sSeq (sSet 2 (eCallN 2 df_need_any (aCons (oE (eVar 0)) (aCons (oE (eVar 1)) aNil))))
  g_need_rule_2)
def df_need_rule : DF := dfOf 1 g_need_rule
theorem ok_need_rule {P : Program} {w : World} {base : Heap} {A : Am} (T : Txt A) {fd : FuncData} (F : Fun A.K "need_rule" "need_rule" s_need_rule (A.ad "need_rule") fd) : FnOk P w A.K A.mg base (L2.CX P w) 4 (A.ad "need_rule") fd ["rule", "what"] (spD A 2 df_need_rule) := by
  obtain ⟨fd_is_primitive_by, F_is_primitive_by, B_is_primitive_by⟩ := T.f_is_primitive_by.fn
  have G_is_primitive_by := ok_is_primitive_by (P := P) (w := w) (base := base) T F_is_primitive_by
  obtain ⟨fd_need_any, F_need_any, B_need_any⟩ := T.f_need_any.fn
  have G_need_any := ok_need_any (P := P) (w := w) (base := base) T F_need_any
  obtain ⟨ff_Unlike, fdx_Unlike, IN_Unlike, TY_Unlike, FX_Unlike, BX_Unlike⟩ := T.x_Unlike.fn
  have GX_Unlike := okx_Unlike (P := P) (w := w) (base := base) FX_Unlike
  refine fnD (k := 3) F sc_need_rule (fun cdv Ar outer s H E hr => ?_) (fun _ _ _ _ _ h => h)
  exact (ds_cons (ds_set (i := 2) sc_need_rule.nd rfl (by first | exact .inl rfl | exact .inr rfl) (de_call G_need_any (hr.mono (by decide)) rfl T.f_need_any.mg T.f_need_any.kp B_need_any (passE (takes_of rfl rfl rfl rfl)) (da_cons (do_e (de_var (pv 0))) (da_cons (do_e (de_var (pv 1))) da_nil))))
    (ds_cons (ds_if (dt_not (dt_true rfl (de_call G_is_primitive_by (hr.mono (by decide)) rfl T.f_is_primitive_by.mg T.f_is_primitive_by.kp B_is_primitive_by (passE (takes_of rfl rfl rfl rfl)) (da_cons (do_e (de_var (pv 2))) da_nil)) (fun _ => rfl))) (ds_cons (ds_raise1 T.x_Unlike.ok T.x_Unlike.no1 IN_Unlike TY_Unlike GX_Unlike (hr.mono (by decide)) BX_Unlike rfl T.x_Unlike.mg rfl (takes_of rfl rfl rfl rfl) passF (da_cons (do_e (de_var (pv 1))) da_nil))
    ds_nil) ds_nil)
    (ds_cons (ds_ret (de_mv (pv 2)))
    ds_nil)))
theorem sc_is_integer : FnScope ["value"] ["value"] (defScope s_is_integer) := ⟨rfl, rfl, rfl, by decide +kernel, rfl, by decide +kernel, by decide +kernel⟩
abbrev g_is_integer : GS := (sSeq (sRet (eAnd (eCa (nIsi (["Rule"] : List Str)) (aCons (oB 0) (aCons (oE (eC (.ty "int"))) aNil))) (eNot (eCa (nIsi (["Rule"] : List Str)) (aCons (oB 0) (aCons (oE (eC (.ty "bool"))) aNil))))))
  sNil)
def df_is_integer : DF := dfOf 0 g_is_integer
theorem ok_is_integer {P : Program} {w : World} {base : Heap} {A : Am} (T : Txt A) {fd : FuncData} (F : Fun A.K "is_integer" "is_integer" s_is_integer (A.ad "is_integer") fd) : FnOk P w A.K A.mg base (L2.CX P w) 1 (A.ad "is_integer") fd ["value"] (spD A 1 df_is_integer) := by
  refine fnD (k := 0) F sc_is_integer (fun cdv Ar outer s H E hr => ?_) (fun _ _ _ _ _ h => h)
  exact (ds_cons (ds_ret (de_and (de_ca (cd_isi rfl T.cls) (pe_callB cr_isiA rfl T.b_isinstance (by decide +kernel) (da_cons (do_b (pv 0)) (da_cons (do_e (de_c (pe_bty rfl T.b_int (by decide +kernel)) (fun _ => .ty _))) da_nil)))) (de_one (de_not (de_ca (cd_isi rfl T.cls) (pe_callB cr_isiA rfl T.b_isinstance (by decide +kernel) (da_cons (do_b (pv 0)) (da_cons (do_e (de_c (pe_bty rfl T.b_bool (by decide +kernel)) (fun _ => .ty _))) da_nil))))))))
    ds_nil)
theorem sc_is_index : FnScope ["value", "many"] ["value", "many"] (defScope s_is_index) := ⟨rfl, rfl, rfl, by decide +kernel, rfl, by decide +kernel, by decide +kernel⟩
abbrev g_is_index : GS := (sSeq (sRet (eAnd (eCallN 1 df_is_integer (aCons (oE (eVar 0)) aNil)) (eChain (dCmp fun i j => decide (i ≤ j)) (dCmp fun i j => decide (i < j)) (oE (eC (.int 0))) (oB 0) (oB 1))))
  sNil)
def df_is_index : DF := dfOf 0 g_is_index
theorem ok_is_index {P : Program} {w : World} {base : Heap} {A : Am} (T : Txt A) {fd : FuncData} (F : Fun A.K "is_index" "is_index" s_is_index (A.ad "is_index") fd) : FnOk P w A.K A.mg base (L2.CX P w) 2 (A.ad "is_index") fd ["value", "many"] (spD A 2 df_is_index) := by
  obtain ⟨fd_is_integer, F_is_integer, B_is_integer⟩ := T.f_is_integer.fn
  have G_is_integer := ok_is_integer (P := P) (w := w) (base := base) T F_is_integer
  refine fnD (k := 1) F sc_is_index (fun cdv Ar outer s H E hr => ?_) (fun _ _ _ _ _ h => h)
  exact (ds_cons (ds_ret (de_and (de_call G_is_integer (hr.mono (by decide)) rfl T.f_is_integer.mg T.f_is_integer.kp B_is_integer (passE (takes_of rfl rfl rfl rfl)) (da_cons (do_e (de_var (pv 0))) da_nil)) (de_one (de_chain (od_cmp fun i j => decide (i ≤ j)) (od_cmp fun i j => decide (i < j)) op_le op_lt (do_e (de_c pe_int (fun _ => .int _))) (do_b (pv 0)) (do_b (pv 1))))))
    ds_nil)
theorem sc_is_list : FnScope ["value"] ["value"] (defScope s_is_list) := ⟨rfl, rfl, rfl, by decide +kernel, rfl, by decide +kernel, by decide +kernel⟩
abbrev g_is_list : GS := (sSeq (sRet (eCa (nIsi (["Rule"] : List Str)) (aCons (oB 0) (aCons (oE (eTup (aCons (oE (eC (.ty "list"))) (aCons (oE (eC (.ty "tuple"))) aNil)))) aNil))))
  sNil)
def df_is_list : DF := dfOf 0 g_is_list
theorem ok_is_list {P : Program} {w : World} {base : Heap} {A : Am} (T : Txt A) {fd : FuncData} (F : Fun A.K "is_list" "is_list" s_is_list (A.ad "is_list") fd) : FnOk P w A.K A.mg base (L2.CX P w) 1 (A.ad "is_list") fd ["value"] (spD A 1 df_is_list) := by
  refine fnD (k := 0) F sc_is_list (fun cdv Ar outer s H E hr => ?_) (fun _ _ _ _ _ h => h)
  exact (ds_cons (ds_ret (de_ca (cd_isi rfl T.cls) (pe_callB cr_isiA rfl T.b_isinstance (by decide +kernel) (da_cons (do_b (pv 0)) (da_cons (do_e (de_tup (pe_tup (da_cons (do_e (de_c (pe_bty rfl T.b_list (by decide +kernel)) (fun _ => .ty _))) (da_cons (do_e (de_c (pe_bty rfl T.b_tuple (by decide +kernel)) (fun _ => .ty _))) da_nil))))) da_nil)))))
    ds_nil)
theorem sc_is_indexes : FnScope ["value", "many", "one"] ["value", "many"] (defScope s_is_indexes) := ⟨rfl, rfl, rfl, by decide +kernel, rfl, by decide +kernel, by decide +kernel⟩
abbrev g_is_indexes : GS := (sSeq (sRet (eAnd (eCallN 1 df_is_list (aCons (oE (eVar 0)) aNil)) (eCa nAll (aCons (oE (eLc (iE (eVar 0)) (gNm 2) tYesD (eCallN 2 df_is_index (aCons (oE (eVar 2)) (aCons (oE (eVar 1)) aNil))) [2])) aNil))))
  sNil)
def df_is_indexes : DF := dfOf 1 g_is_indexes
theorem ok_is_indexes {P : Program} {w : World} {base : Heap} {A : Am} (T : Txt A) {fd : FuncData} (F : Fun A.K "is_indexes" "is_indexes" s_is_indexes (A.ad "is_indexes") fd) : FnOk P w A.K A.mg base (L2.CX P w) 3 (A.ad "is_indexes") fd ["value", "many"] (spD A 2 df_is_indexes) := by
  obtain ⟨fd_is_index, F_is_index, B_is_index⟩ := T.f_is_index.fn
  have G_is_index := ok_is_index (P := P) (w := w) (base := base) T F_is_index
  obtain ⟨fd_is_list, F_is_list, B_is_list⟩ := T.f_is_list.fn
  have G_is_list := ok_is_list (P := P) (w := w) (base := base) T F_is_list
  refine fnD (k := 2) F sc_is_indexes (fun cdv Ar outer s H E hr => ?_) (fun _ _ _ _ _ h => h)
  exact (ds_cons (ds_ret (de_and (de_call G_is_list (hr.mono (by decide)) rfl T.f_is_list.mg T.f_is_list.kp B_is_list (passE (takes_of rfl rfl rfl rfl)) (da_cons (do_e (de_var (pv 0))) da_nil)) (de_one (de_ca (cd_all rfl) (pe_callB (cr_all rfl) rfl T.b_all (by decide +kernel) (da_cons (do_e (de_lc (own := [("one", 2)]) rfl sc_is_indexes.nd (di_e rfl (de_var (pv 0))) (blkOk_by (N := ["value", "many", "one"]) (sc := defScope s_is_indexes) (own := [("one", 2)]) (by decide +kernel)) (fun _ _ _ _ _ => (dg_name (by decide) sc_is_indexes.nd rfl (by first | exact .inl rfl | exact .inr rfl))) (fun _ _ _ _ _ => dts_nil) (fun _ _ _ _ _ => (de_call G_is_index (hr.mono (by decide)) rfl T.f_is_index.mg T.f_is_index.kp B_is_index passF (da_cons (do_e (de_var (pv 2))) (da_cons (do_e (de_var (pv 1))) da_nil)))))) da_nil))))))
    ds_nil)
theorem sc_is_word : FnScope ["value", "many"] ["value", "many"] (defScope s_is_word) := ⟨rfl, rfl, rfl, by decide +kernel, rfl, by decide +kernel, by decide +kernel⟩
abbrev g_is_word : GS := (sSeq (sRet (eAnd (eCallN 2 df_is_indexes (aCons (oE (eVar 0)) (aCons (oE (eVar 1)) aNil))) (eBin (dCmp fun i j => decide (i ≤ j)) (oE (eCa nLen (aCons (oB 0) aNil))) (oE (eC (.int 4000))))))
  sNil)
def df_is_word : DF := dfOf 0 g_is_word
theorem ok_is_word {P : Program} {w : World} {base : Heap} {A : Am} (T : Txt A) {fd : FuncData} (F : Fun A.K "is_word" "is_word" s_is_word (A.ad "is_word") fd) : FnOk P w A.K A.mg base (L2.CX P w) 4 (A.ad "is_word") fd ["value", "many"] (spD A 2 df_is_word) := by
  obtain ⟨fd_is_indexes, F_is_indexes, B_is_indexes⟩ := T.f_is_indexes.fn
  have G_is_indexes := ok_is_indexes (P := P) (w := w) (base := base) T F_is_indexes
  refine fnD (k := 3) F sc_is_word (fun cdv Ar outer s H E hr => ?_) (fun _ _ _ _ _ h => h)
  exact (ds_cons (ds_ret (de_and (de_call G_is_indexes (hr.mono (by decide)) rfl T.f_is_indexes.mg T.f_is_indexes.kp B_is_indexes (passE (takes_of rfl rfl rfl rfl)) (da_cons (do_e (de_var (pv 0))) (da_cons (do_e (de_var (pv 1))) da_nil))) (de_one (de_cmpR (od_cmp fun i j => decide (i ≤ j)) op_le (do_e (de_ca (cd_len rfl) (pe_callB cr_lenA rfl T.b_len (by decide +kernel) (da_cons (do_b (pv 0)) da_nil)))) (do_e (de_c (pe_gl rfl T.c_MOST_LONG) (fun _ => .int _))) (nomark _)))))
    ds_nil)
theorem sc_are_images : FnScope ["value", "many", "one"] ["value"] (defScope s_are_images) := ⟨rfl, rfl, rfl, by decide +kernel, rfl, by decide +kernel, by decide +kernel⟩
def g_are_images_1 : GS := (sSeq (sRet (eAnd (eBin (dCmp fun i j => decide (i ≤ j)) (oE (eCa nSum (aCons (oE (eLc (iE (eVar 0)) (gNm 2) tYesD (eCa nLen (aCons (oB 2) aNil)) [2])) aNil))) (oE (eC (.int 24)))) (eAnd (eBin (dCmp fun i j => decide (i ≥ j)) (oE (eCa nLen (aCons (oE (eBin dIx (oB 0) (oE (eC (.int 0))))) aNil))) (oE (eC (.int 2)))) (eBin dEq (oE (eBin dIx (oE (eBin dIx (oB 0) (oE (eC (.int 0))))) (oE (eC (.int 0))))) (oE (eC (.int 0)))))))
  sNil)
def g_are_images_2 : GS := (sSeq (sIf (gNot (gTr (eCa nAll (aCons (oE (eLc (iE (eVar 0)) (gNm 2) tYesD (eAnd (eCallN 2 df_is_word (aCons (oE (eVar 2)) (aCons (oE (eVar 1)) aNil))) (eChain (dCmp fun i j => decide (i ≤ j)) (dCmp fun i j => decide (i ≤ j)) (oE (eC (.int 1))) (oE (eCa nLen (aCons (oB 2) aNil))) (oE (eC (.int 8))))) [2])) aNil)))) (sSeq (sRet (eC (.bl false)))
  sNil) sNil)
  g_are_images_1)
def g_are_images_3 : GS := (sSeq (sSet 1 (eCa nLen (aCons (oB 0) aNil)))
  g_are_images_2)
abbrev g_are_images : GS := (sSeq (sIf (gOr (gNot (gTr (eCallN 1 df_is_list (aCons (oE (eVar 0)) aNil)))) (gNot (gV (eChain (dCmp fun i j => decide (i ≤ j)) (dCmp fun i j => decide (i ≤ j)) (oE (eC (.int 1))) (oE (eCa nLen (aCons (oB 0) aNil))) (oE (eC (.int 5))))))) (sSeq (sRet (eC (.bl false)))
  sNil) sNil)
  g_are_images_3)
def df_are_images : DF := dfOf 2 g_are_images
theorem ok_are_images {P : Program} {w : World} {base : Heap} {A : Am} (T : Txt A) {fd : FuncData} (F : Fun A.K "are_images" "are_images" s_are_images (A.ad "are_images") fd) : FnOk P w A.K A.mg base (L2.CX P w) 5 (A.ad "are_images") fd ["value"] (spD A 1 df_are_images) := by
  obtain ⟨fd_is_word, F_is_word, B_is_word⟩ := T.f_is_word.fn
  have G_is_word := ok_is_word (P := P) (w := w) (base := base) T F_is_word
  obtain ⟨fd_is_list, F_is_list, B_is_list⟩ := T.f_is_list.fn
  have G_is_list := ok_is_list (P := P) (w := w) (base := base) T F_is_list
  refine fnD (k := 4) F sc_are_images (fun cdv Ar outer s H E hr => ?_) (fun _ _ _ _ _ h => h)
  exact (ds_cons (ds_if (PW.pt (dw_or (dt_not (dt_true rfl (de_call G_is_list (hr.mono (by decide)) rfl T.f_is_list.mg T.f_is_list.kp B_is_list (passE (takes_of rfl rfl rfl rfl)) (da_cons (do_e (de_var (pv 0))) da_nil)) (fun _ => rfl))) (dw_or1 (dt_not (dt_chain (od_cmp fun i j => decide (i ≤ j)) (od_cmp fun i j => decide (i ≤ j)) op_le op_le (do_e (de_c pe_int (fun _ => .int _))) (do_e (de_ca (cd_len rfl) (pe_callB cr_lenA rfl T.b_len (by decide +kernel) (da_cons (do_b (pv 0)) da_nil)))) (do_e (de_c (pe_gl rfl T.c_MOST_IMAGES) (fun _ => .int _)))))))) (ds_cons (ds_ret (de_c pe_bl (fun _ => .bl _)))
    ds_nil) ds_nil)
    (ds_cons (ds_set (i := 1) sc_are_images.nd rfl (by first | exact .inl rfl | exact .inr rfl) (de_ca (cd_len rfl) (pe_callB cr_lenA rfl T.b_len (by decide +kernel) (da_cons (do_b (pv 0)) da_nil))))
    (ds_cons (ds_if (dt_not (dt_true rfl (de_ca (cd_all rfl) (pe_callB (cr_all rfl) rfl T.b_all (by decide +kernel) (da_cons (do_e (de_lc (own := [("one", 2)]) rfl sc_are_images.nd (di_e rfl (de_var (pv 0))) (blkOk_by (N := ["value", "many", "one"]) (sc := defScope s_are_images) (own := [("one", 2)]) (by decide +kernel)) (fun _ _ _ _ _ => (dg_name (by decide) sc_are_images.nd rfl (by first | exact .inl rfl | exact .inr rfl))) (fun _ _ _ _ _ => dts_nil) (fun _ _ _ _ _ => (de_and (de_call G_is_word (hr.mono (by decide)) rfl T.f_is_word.mg T.f_is_word.kp B_is_word passF (da_cons (do_e (de_var (pv 2))) (da_cons (do_e (de_var (pv 1))) da_nil))) (de_one (de_chain (od_cmp fun i j => decide (i ≤ j)) (od_cmp fun i j => decide (i ≤ j)) op_le op_le (do_e (de_c pe_int (fun _ => .int _))) (do_e (de_ca (cd_len rfl) (pe_callB cr_lenA rfl T.b_len (by decide +kernel) (da_cons (do_b (pv 2)) da_nil)))) (do_e (de_c (pe_gl rfl T.c_MOST_IMAGE) (fun _ => .int _))))))))) da_nil))) (fun _ => rfl))) (ds_cons (ds_ret (de_c pe_bl (fun _ => .bl _)))
    ds_nil) ds_nil)
    (ds_cons (ds_ret (de_and (de_cmpR (od_cmp fun i j => decide (i ≤ j)) op_le (do_e (de_ca (cd_sum rfl) (pe_callB (cr_sum rfl) rfl T.b_sum (by decide +kernel) (da_cons (do_e (de_lc (own := [("one", 2)]) rfl sc_are_images.nd (di_e rfl (de_var (pv 0))) (blkOk_by (N := ["value", "many", "one"]) (sc := defScope s_are_images) (own := [("one", 2)]) (by decide +kernel)) (fun _ _ _ _ _ => (dg_name (by decide) sc_are_images.nd rfl (by first | exact .inl rfl | exact .inr rfl))) (fun _ _ _ _ _ => dts_nil) (fun _ _ _ _ _ => (de_ca (cd_len rfl) (pe_callB cr_lenA rfl T.b_len (by decide +kernel) (da_cons (do_b (pv 2)) da_nil)))))) da_nil)))) (do_e (de_c (pe_gl rfl T.c_MOST_ALL) (fun _ => .int _))) (nomark _)) (de_and (de_cmpR (od_cmp fun i j => decide (i ≥ j)) op_ge (do_e (de_ca (cd_len rfl) (pe_callB cr_lenA rfl T.b_len (by decide +kernel) (da_cons (do_e (de_bin (od_ix rfl) (pe_ix ix_seq (do_b (pv 0)) (do_e (de_c pe_int (fun _ => .int _))) (fun _ _ => rfl)))) da_nil)))) (do_e (de_c pe_int (fun _ => .int _))) (nomark _)) (de_one (de_cmpR (od_eq rfl) (op_eqD (u64 hr)) (do_e (de_bin (od_ix rfl) (pe_ix ix_seq (do_e (de_bin (od_ix rfl) (pe_ix ix_seq (do_b (pv 0)) (do_e (de_c pe_int (fun _ => .int _))) (fun _ _ => rfl)))) (do_e (de_c pe_int (fun _ => .int _))) (fun _ _ => rfl)))) (do_e (de_c pe_int (fun _ => .int _))) (nomark _))))))
    ds_nil))))
theorem sc_as_tuples : FnScope ["value", "one"] ["value"] (defScope s_as_tuples) := ⟨rfl, rfl, rfl, by decide +kernel, rfl, by decide +kernel, by decide +kernel⟩
abbrev g_as_tuples (rec : DF) : GS := (sSeq (sIf (gTr (eCa (nIsi (["Rule"] : List Str)) (aCons (oB 0) (aCons (oE (eTup (aCons (oE (eC (.ty "list"))) (aCons (oE (eC (.ty "tuple"))) aNil)))) aNil)))) (sSeq (sRet (eCa nTup (aCons (oE (eLc (iE (eVar 0)) (gNm 1) tYesD (eCallN 1 rec (aCons (oE (eVar 1)) aNil)) [1])) aNil)))
  sNil) sNil)
  (sSeq (sRet (eVar 0))
  sNil))
def df_as_tuples_n : Nat → DF
  | 0 => fun _ _ _ => False
  | k + 1 => dfOf 1 (g_as_tuples (df_as_tuples_n k))
def df_as_tuples : DF := df_as_tuples_n 6
theorem ok_as_tuples_n {P : Program} {w : World} {base : Heap} {A : Am} (T : Txt A) {fd : FuncData} (F : Fun A.K "as_tuples" "as_tuples" s_as_tuples (A.ad "as_tuples") fd) (B_as_tuples : Binds A.K fd ["value"] []) : ∀ k : Nat, FnOk P w A.K A.mg base (L2.CX P w) (1 + k) (A.ad "as_tuples") fd ["value"] (spD A 1 (df_as_tuples_n k))
  | 0 => ⟨fun vs H Q E h => h.1, fun _ _ _ _ _ _ _ _ _ _ _ _ _ h => by obtain ⟨_, _, _, _, _, _, _, z, _⟩ := h; exact z.elim⟩
  | k + 1 => by
    have G_as_tuples := ok_as_tuples_n (P := P) (w := w) (base := base) T F B_as_tuples k
    refine fnD (k := 1 + k) F sc_as_tuples (fun cdv Ar outer s H E hr => ?_) (fun _ _ _ _ _ h => h)
    exact (ds_cons (ds_if (dt_true rfl (de_ca (cd_isi rfl T.cls) (pe_callB cr_isiA rfl T.b_isinstance (by decide +kernel) (da_cons (do_b (pv 0)) (da_cons (do_e (de_tup (pe_tup (da_cons (do_e (de_c (pe_bty rfl T.b_list (by decide +kernel)) (fun _ => .ty _))) (da_cons (do_e (de_c (pe_bty rfl T.b_tuple (by decide +kernel)) (fun _ => .ty _))) da_nil))))) da_nil)))) (fun _ => rfl)) (ds_cons (ds_ret (de_ca (cd_tup rfl) (pe_callTy call_tuple_of rfl T.b_tuple (by decide +kernel) (da_cons (do_e (de_lc (own := [("one", 1)]) rfl sc_as_tuples.nd (di_e rfl (de_var (pv 0))) (blkOk_by (N := ["value", "one"]) (sc := defScope s_as_tuples) (own := [("one", 1)]) (by decide +kernel)) (fun _ _ _ _ _ => (dg_name (by decide) sc_as_tuples.nd rfl (by first | exact .inl rfl | exact .inr rfl))) (fun _ _ _ _ _ => dts_nil) (fun _ _ _ _ _ => (de_call G_as_tuples (hr.mono (by omega)) rfl T.f_as_tuples.mg T.f_as_tuples.kp B_as_tuples passF (da_cons (do_e (de_var (pv 1))) da_nil))))) da_nil))))
    ds_nil) ds_nil)
    (ds_cons (ds_ret (de_var (pv 0)))
    ds_nil))
theorem ok_as_tuples {P : Program} {w : World} {base : Heap} {A : Am} (T : Txt A) {fd : FuncData} (F : Fun A.K "as_tuples" "as_tuples" s_as_tuples (A.ad "as_tuples") fd) : FnOk P w A.K A.mg base (L2.CX P w) 7 (A.ad "as_tuples") fd ["value"] (spD A 1 df_as_tuples) := by
  obtain ⟨fd2, F2, B2⟩ := T.f_as_tuples.fn
  have e : fd2 = fd := fun_uniq F2 F
  subst e
  exact ok_as_tuples_n T F2 B2 6
theorem sc_Rule_init : FnScope ["self", "images"] ["self", "images"] (defScope s_Rule_init) := ⟨rfl, rfl, rfl, by decide +kernel, rfl, by decide +kernel, by decide +kernel⟩
abbrev gt_Rule_init : GT := (gNot (gTr (eCallN 1 df_are_images (aCons (oE (eVar 1)) aNil))))
abbrev gr_Rule_init : GS := (sSeq (sRaise "BadRule" ["what"] (aCons (oE (eC (.str "images"))) aNil))
  sNil)
abbrev ge_Rule_init : GE := (eCallN 1 df_as_tuples (aCons (oE (eVar 1)) aNil))
def df_Rule : DF := dfI 0 "Rule" "images" gt_Rule_init gr_Rule_init ge_Rule_init
theorem ok_Rule_init {P : Program} {w : World} {base : Heap} {A : Am} (T : Txt A) {f : Addr} {fd : FuncData} (F : Fun A.K "__init__" "Rule.__init__" s_Rule_init f fd) : FnOk P w A.K A.mg base (L2.CX P w) 8 f fd ["self", "images"] (spIni A 1 "Rule" "images" df_Rule) := by
  obtain ⟨fd_are_images, F_are_images, B_are_images⟩ := T.f_are_images.fn
  have G_are_images := ok_are_images (P := P) (w := w) (base := base) T F_are_images
  obtain ⟨fd_as_tuples, F_as_tuples, B_as_tuples⟩ := T.f_as_tuples.fn
  have G_as_tuples := ok_as_tuples (P := P) (w := w) (base := base) T F_as_tuples
  obtain ⟨ff_BadRule, fdx_BadRule, IN_BadRule, TY_BadRule, FX_BadRule, BX_BadRule⟩ := T.x_BadRule.fn
  have GX_BadRule := okx_BadRule (P := P) (w := w) (base := base) FX_BadRule
  refine ok_ini (k := 7) (T.d_images "Rule" (by simp)) F sc_Rule_init rfl (fun cdv Ar outer s H E hr => ?_)
  exact (pss_cons (ps_if (dt_not (dt_true rfl (de_call G_are_images (hr.mono (by decide)) rfl T.f_are_images.mg T.f_are_images.kp B_are_images (passE (takes_of rfl rfl rfl rfl)) (da_cons (do_e (de_var (pv 1))) da_nil)) (fun _ => rfl))) (ds_cons (ds_raise1 T.x_BadRule.ok T.x_BadRule.no1 IN_BadRule TY_BadRule GX_BadRule (hr.mono (by decide)) BX_BadRule rfl T.x_BadRule.mg rfl (takes_of rfl rfl rfl rfl) passF (da_cons (do_e (de_c pe_str (fun _ => .str _))) da_nil))
    ds_nil) pss_nil) (pss_one (ps_fld (pv 0) (de_call G_as_tuples (hr.mono (by decide)) rfl T.f_as_tuples.mg T.f_as_tuples.kp B_as_tuples (passE (takes_of rfl rfl rfl rfl)) (da_cons (do_e (de_var (pv 1))) da_nil)) rfl)))
theorem sc_told_well : FnScope ["rule"] ["rule"] (defScope s_told_well) := ⟨rfl, rfl, rfl, by decide +kernel, rfl, by decide +kernel, by decide +kernel⟩
abbrev g_told_well : GS := (sSeq (sRet (eMake 1 df_Rule (aCons (oE (eCallN 1 df_well_by (aCons (oE (eCallN 2 df_need_rule (aCons (oE (eVar 0)) (aCons (oE (eC (.str "rule"))) aNil)))) aNil))) aNil)))
  sNil)
def df_told_well : DF := dfOf 0 g_told_well
theorem ok_told_well {P : Program} {w : World} {base : Heap} {A : Am} (T : Txt A) {fd : FuncData} (F : Fun A.K "told_well" "told_well" s_told_well (A.ad "told_well") fd) : FnOk P w A.K A.mg base (L2.CX P w) 10 (A.ad "told_well") fd ["rule"] (spD A 1 df_told_well) := by
  obtain ⟨fd_well_by, F_well_by, B_well_by⟩ := T.f_well_by.fn
  have G_well_by := ok_well_by (P := P) (w := w) (base := base) T F_well_by
  obtain ⟨fd_need_rule, F_need_rule, B_need_rule⟩ := T.f_need_rule.fn
  have G_need_rule := ok_need_rule (P := P) (w := w) (base := base) T F_need_rule
  obtain ⟨fi_Rule, fd_Rule, M_Rule, F_Rule, BI_Rule⟩ := T.r_Rule.fn
  have GI_Rule := ok_Rule_init (P := P) (w := w) (base := base) T F_Rule
  refine fnD (k := 9) F sc_told_well (fun cdv Ar outer s H E hr => ?_) (fun _ _ _ _ _ h => h)
  exact (ds_cons (ds_ret (de_make rfl rfl M_Rule GI_Rule (hr.mono (by decide)) rfl T.r_Rule.mg BI_Rule (passE (takes_of rfl rfl rfl rfl)) (da_cons (do_e (de_call G_well_by (hr.mono (by decide)) rfl T.f_well_by.mg T.f_well_by.kp B_well_by (passE (takes_of rfl rfl rfl rfl)) (da_cons (do_e (de_call G_need_rule (hr.mono (by decide)) rfl T.f_need_rule.mg T.f_need_rule.kp B_need_rule (passE (takes_of rfl rfl rfl rfl)) (da_cons (do_e (de_var (pv 0))) (da_cons (do_e (de_c pe_str (fun _ => .str _))) da_nil)))) da_nil))) da_nil)))
    ds_nil)
theorem sc_naming : FnScope ["rule"] ["rule"] (defScope s_naming) := ⟨rfl, rfl, rfl, by decide +kernel, rfl, by decide +kernel, by decide +kernel⟩
abbrev g_naming : GS := (sSeq (sRet (eCallN 1 df_naming_by (aCons (oE (eCallN 2 df_need_rule (aCons (oE (eVar 0)) (aCons (oE (eC (.str "rule"))) aNil)))) aNil)))
  sNil)
def df_naming : DF := dfOf 0 g_naming
theorem ok_naming {P : Program} {w : World} {base : Heap} {A : Am} (T : Txt A) {fd : FuncData} (F : Fun A.K "naming" "naming" s_naming (A.ad "naming") fd) : FnOk P w A.K A.mg base (L2.CX P w) 5 (A.ad "naming") fd ["rule"] (spD A 1 df_naming) := by
  obtain ⟨fd_naming_by, F_naming_by, B_naming_by⟩ := T.f_naming_by.fn
  have G_naming_by := ok_naming_by (P := P) (w := w) (base := base) T F_naming_by
  obtain ⟨fd_need_rule, F_need_rule, B_need_rule⟩ := T.f_need_rule.fn
  have G_need_rule := ok_need_rule (P := P) (w := w) (base := base) T F_need_rule
  refine fnD (k := 4) F sc_naming (fun cdv Ar outer s H E hr => ?_) (fun _ _ _ _ _ h => h)
  exact (ds_cons (ds_ret (de_call G_naming_by (hr.mono (by decide)) rfl T.f_naming_by.mg T.f_naming_by.kp B_naming_by (passE (takes_of rfl rfl rfl rfl)) (da_cons (do_e (de_call G_need_rule (hr.mono (by decide)) rfl T.f_need_rule.mg T.f_need_rule.kp B_need_rule (passE (takes_of rfl rfl rfl rfl)) (da_cons (do_e (de_var (pv 0))) (da_cons (do_e (de_c pe_str (fun _ => .str _))) da_nil)))) da_nil)))
    ds_nil)
theorem sc__law_one : FnScope ["call", "rule"] ["call", "rule"] (defScope s__law_one) := ⟨rfl, rfl, rfl, by decide +kernel, rfl, by decide +kernel, by decide +kernel⟩
abbrev g__law_one : GS := (sSeq (sRet (eFault [0, 1] kdT (eOr2 (eCallL 0 "naming" 1 df_naming (aCons (oE (eVar 1)) aNil)) (eCallL 0 "told_well" 1 df_told_well (aCons (oE (eVar 1)) aNil)))))
  sNil)
def df__law_one : DF := dfOf 0 g__law_one
theorem ok__law_one {P : Program} {w : World} {base : Heap} {A : Am} (T : Txt A) (Bs : Bas A base) {fd : FuncData} (F : Fun A.K "_law_one" "_law_one" s__law_one (A.ad "_law_one") fd) : FnOk P w A.K A.mg base (L2.CX P w) 13 (A.ad "_law_one") fd ["call", "rule"] (spD A 2 df__law_one) := by
  obtain ⟨fd_told_well, F_told_well, B_told_well⟩ := T.f_told_well.fn
  have G_told_well := ok_told_well (P := P) (w := w) (base := base) T F_told_well
  obtain ⟨fd_naming, F_naming, B_naming⟩ := T.f_naming.fn
  have G_naming := ok_naming (P := P) (w := w) (base := base) T F_naming
  obtain ⟨cc__law_one, ct__law_one, CT__law_one⟩ := Bs.c__law_one
  refine fnDc (k := 12) F CT__law_one sc__law_one (fun Ar outer s H E hr => ?_) (fun _ _ _ _ _ h => h)
  exact (ds_cons (ds_ret (de_flt (k := 10) (vs := [0, 1]) (flt_ok T) rfl rfl rfl CT__law_one.2.1 rfl CT__law_one.2.2.1 CT__law_one.2.2.2 hr (by decide) (lamS_by (sc := defScope s__law_one) (by decide +kernel)) rfl (fun _ _ _ _ _ => rfl) (fun Ar outer s H E' f c' hr => (de_or2 (de_callL (nm := "naming") (i := 0) G_naming (hr.mono (by decide)) rfl (by first | exact .inl rfl | exact .inr (.inl rfl) | exact .inr (.inr rfl)) T.f_naming.kp B_naming (passE (takes_of rfl rfl rfl rfl)) (da_cons (do_e (de_var (pv 1))) da_nil)) (de_callL (nm := "told_well") (i := 0) G_told_well (hr.mono (by decide)) rfl (by first | exact .inl rfl | exact .inr (.inl rfl) | exact .inr (.inr rfl)) T.f_told_well.kp B_told_well (passE (takes_of rfl rfl rfl rfl)) (da_cons (do_e (de_var (pv 1))) da_nil))))))
    ds_nil)
theorem sc__law_draw : FnScope ["pen", "many", "cell", "digit", "blend"] ["pen", "many"] (defScope s__law_draw) := ⟨rfl, rfl, rfl, by decide +kernel, rfl, by decide +kernel, by decide +kernel⟩
def df__law_draw : DF := df_draw
theorem ok__law_draw {P : Program} {w : World} {base : Heap} {A : Am} (T : Txt A) {fd : FuncData} (F : Fun A.K "_law_draw" "_law_draw" s__law_draw (A.ad "_law_draw") fd) : FnOk P w A.K A.mg base (L2.CX P w) 1 (A.ad "_law_draw") fd ["pen", "many"] (spD A 2 df__law_draw) := by
  refine draw_fn (k := 0) rfl rfl F sc__law_draw (fun cdv Ar outer s H E hr => ?_)
  exact (pss_cons (ps_dput (u1 hr) (pv 0) pe_str (pe_op op_add (pe_dget (u1 hr) (pv 0) pe_str (fun _ _ => rfl)) pe_int) rfl) (pss_cons (ps_if (PW.pt (pw_and (pt_cmp (pc_eqI (pe_dget (u1 hr) (pv 0) pe_str (fun _ _ => rfl)) pe_int)) (pw_and1 (pt_cmp (pc_lt (pe_dget (u1 hr) (pv 0) pe_str (fun _ _ => rfl)) (pe_callB call_len rfl T.b_len (by decide +kernel) (pa_cons (pe_dget (u1 hr) (pv 0) pe_str (fun _ _ => rfl)) pa_nil))))))) (pss_cons (ps_set (i := 2) sc__law_draw.nd rfl (.inl rfl) (pe_ix ix_seq (pe_dget (u1 hr) (pv 0) pe_str (fun _ _ => rfl)) (pe_dget (u1 hr) (pv 0) pe_str (fun _ _ => rfl)) (fun _ _ => rfl))) (pss_cons (ps_dput (u1 hr) (pv 0) pe_str (pe_op op_add (pe_dget (u1 hr) (pv 0) pe_str (fun _ _ => rfl)) pe_int) rfl) (pss_one (ps_if (pt_cmp (pc_ge (pv 2) (pe_op op_pow pe_int pe_int))) (pss_one (ps_dput (u1 hr) (pv 0) pe_str (pe_op op_sub (pv 2) (pe_op op_pow pe_int pe_int)) rfl)) (pss_one (ps_dput (u1 hr) (pv 0) pe_str (pe_op op_mod (pe_callTy call_int1 rfl T.b_int (by decide +kernel) (pa_cons (pe_op op_add (pe_op op_mul (pe_dget (u1 hr) (pv 0) pe_str (fun _ _ => rfl)) pe_int) (pv 2)) pa_nil)) pe_int) rfl)))))) pss_nil) (pss_cons (ps_if (pt_cmp (pc_gt (pe_dget (u1 hr) (pv 0) pe_str (fun _ _ => rfl)) pe_int)) (pss_cons (ps_set (i := 3) sc__law_draw.nd rfl (.inl rfl) (pe_op op_mod (pe_callTy call_int1 rfl T.b_int (by decide +kernel) (pa_cons (pe_dget (u1 hr) (pv 0) pe_str (fun _ _ => rfl)) pa_nil)) (pv 1))) (pss_cons (ps_dput (u1 hr) (pv 0) pe_str (pe_op op_fdivW (pe_dget (u1 hr) (pv 0) pe_str (fun _ _ => rfl)) (pv 1)) rfl) (pss_one (ps_ret (pv 3))))) pss_nil) (pss_cons (ps_set (i := 4) sc__law_draw.nd rfl (.inl rfl) (pe_op op_mod (pe_callTy call_int1 rfl T.b_int (by decide +kernel) (pa_cons (pe_op op_add (pe_op op_add (pe_op op_mul (pe_dget (u1 hr) (pv 0) pe_str (fun _ _ => rfl)) pe_int) (pe_op op_mul (pe_dget (u1 hr) (pv 0) pe_str (fun _ _ => rfl)) pe_int)) pe_int) pa_nil)) pe_int)) (pss_cons (ps_set (i := 4) sc__law_draw.nd rfl (.inl rfl) (pe_op op_mod (pe_callTy call_int1 rfl T.b_int (by decide +kernel) (pa_cons (pe_op op_add (pe_op op_add (pe_op op_mul (pv 4) (pv 4)) (pe_op op_mul pe_int (pv 4))) (pe_dget (u1 hr) (pv 0) pe_str (fun _ _ => rfl))) pa_nil)) pe_int)) (pss_cons (ps_dput (u1 hr) (pv 0) pe_str (pe_op op_mod (pe_callTy call_int1 rfl T.b_int (by decide +kernel) (pa_cons (pe_op op_add (pe_op op_mul (pv 4) pe_int) pe_int) pa_nil)) pe_int) rfl) (pss_one (ps_ret (pe_op op_mod (pe_callTy call_int1 rfl T.b_int (by decide +kernel) (pa_cons (pe_op op_fdivW (pv 4) pe_int) pa_nil)) (pv 1))))))))))
theorem sc__law_pick : FnScope ["pen", "some"] ["pen", "some"] (defScope s__law_pick) := ⟨rfl, rfl, rfl, by decide +kernel, rfl, by decide +kernel, by decide +kernel⟩
abbrev g__law_pick : GS := (sSeq (sRet (eBin dIx (oB 1) (oE (eCallN 2 df__law_draw (aCons (oB 0) (aCons (oE (eCa nLen (aCons (oB 1) aNil))) aNil))))))
  sNil)
def df__law_pick : DF := dfOf 0 g__law_pick
theorem ok__law_pick {P : Program} {w : World} {base : Heap} {A : Am} (T : Txt A) {fd : FuncData} (F : Fun A.K "_law_pick" "_law_pick" s__law_pick (A.ad "_law_pick") fd) : FnOk P w A.K A.mg base (L2.CX P w) 2 (A.ad "_law_pick") fd ["pen", "some"] (spD A 2 df__law_pick) := by
  obtain ⟨fd__law_draw, F__law_draw, B__law_draw⟩ := T.f__law_draw.fn
  have G__law_draw := ok__law_draw (P := P) (w := w) (base := base) T F__law_draw
  refine fnD (k := 1) F sc__law_pick (fun cdv Ar outer s H E hr => ?_) (fun _ _ _ _ _ h => h)
  exact (ds_cons (ds_ret (de_bin (od_ix rfl) (pe_ix ix_seq (do_b (pv 1)) (do_e (de_call G__law_draw (hr.mono (by decide)) rfl T.f__law_draw.mg T.f__law_draw.kp B__law_draw (passE (takes_of rfl rfl rfl rfl)) (da_cons (do_b (pv 0)) (da_cons (do_e (de_ca (cd_len rfl) (pe_callB cr_lenA rfl T.b_len (by decide +kernel) (da_cons (do_b (pv 1)) da_nil)))) da_nil)))) (fun _ _ => rfl))))
    ds_nil)
theorem sc__law_bad_rule : FnScope ["pen"] ["pen"] (defScope s__law_bad_rule) := ⟨rfl, rfl, rfl, by decide +kernel, rfl, by decide +kernel, by decide +kernel⟩
abbrev g__law_bad_rule : GS := (sSeq (sRet (eCallN 2 df__law_pick (aCons (oB 0) (aCons (oE (eLst (aCons (oE (eC .non)) (aCons (oE (eC (.int 3))) (aCons (oE (eC (.bl true))) (aCons (oE (eC (.str "r"))) (aCons (oE (eTup (aCons (oE (eTup (aCons (oE (eC (.int 0))) (aCons (oE (eC (.int 1))) aNil)))) (aCons (oE (eTup (aCons (oE (eC (.int 0))) aNil))) aNil)))) (aCons (oE eDct0) aNil)))))))) aNil))))
  sNil)
def df__law_bad_rule : DF := dfOf 0 g__law_bad_rule
theorem ok__law_bad_rule {P : Program} {w : World} {base : Heap} {A : Am} (T : Txt A) {fd : FuncData} (F : Fun A.K "_law_bad_rule" "_law_bad_rule" s__law_bad_rule (A.ad "_law_bad_rule") fd) : FnOk P w A.K A.mg base (L2.CX P w) 3 (A.ad "_law_bad_rule") fd ["pen"] (spD A 1 df__law_bad_rule) := by
  obtain ⟨fd__law_pick, F__law_pick, B__law_pick⟩ := T.f__law_pick.fn
  have G__law_pick := ok__law_pick (P := P) (w := w) (base := base) T F__law_pick
  refine fnD (k := 2) F sc__law_bad_rule (fun cdv Ar outer s H E hr => ?_) (fun _ _ _ _ _ h => h)
  exact (ds_cons (ds_ret (de_call G__law_pick (hr.mono (by decide)) rfl T.f__law_pick.mg T.f__law_pick.kp B__law_pick (passE (takes_of rfl rfl rfl rfl)) (da_cons (do_b (pv 0)) (da_cons (do_e (de_lst (pe_lst (da_cons (do_e (de_c pe_non (fun _ => .non))) (da_cons (do_e (de_c pe_int (fun _ => .int _))) (da_cons (do_e (de_c pe_bl (fun _ => .bl _))) (da_cons (do_e (de_c pe_str (fun _ => .str _))) (da_cons (do_e (de_tup (pe_tup (da_cons (do_e (de_tup (pe_tup (da_cons (do_e (de_c pe_int (fun _ => .int _))) (da_cons (do_e (de_c pe_int (fun _ => .int _))) da_nil))))) (da_cons (do_e (de_tup (pe_tup (da_cons (do_e (de_c pe_int (fun _ => .int _))) da_nil)))) da_nil))))) (da_cons (do_e de_dct0) da_nil))))))))) da_nil))))
    ds_nil)
theorem sc__law_image : FnScope ["images", "word", "found", "letter"] ["images", "word"] (defScope s__law_image) := ⟨rfl, rfl, rfl, by decide +kernel, rfl, by decide +kernel, by decide +kernel⟩
def g__law_image_1 : GS := (sSeq (sRet (eCa nTup (aCons (oB 2) aNil)))
  sNil)
def g__law_image_2 : GS := (sSeq (sDrop (mExt 2 (eBin dIx (oB 0) (oB 3))))
  sNil)
def g__law_image_3 : GS := (sSeq (sFor (iE (eVar 1)) (gNm 3) g__law_image_2)
  g__law_image_1)
abbrev g__law_image : GS := (sSeq (sSet 2 (eLst aNil))
  g__law_image_3)
def df__law_image : DF := dfOf 2 g__law_image
theorem ok__law_image {P : Program} {w : World} {base : Heap} {A : Am} (T : Txt A) {fd : FuncData} (F : Fun A.K "_law_image" "_law_image" s__law_image (A.ad "_law_image") fd) : FnOk P w A.K A.mg base (L2.CX P w) 1 (A.ad "_law_image") fd ["images", "word"] (spD A 2 df__law_image) := by
  refine fnD (k := 0) F sc__law_image (fun cdv Ar outer s H E hr => ?_) (fun _ _ _ _ _ h => h)
  exact (ds_cons (ds_set (i := 2) sc__law_image.nd rfl (by first | exact .inl rfl | exact .inr rfl) (de_lst (pe_lst da_nil)))
    (ds_cons (ds_for (vs := [3]) (passes_of rfl) rfl (di_e rfl (de_var (pv 1))) (dg_name (by decide) sc__law_image.nd rfl (by first | exact .inl rfl | exact .inr rfl)) (ds_cons (ds_expr (de_ext rfl (pv 2) (de_bin (od_ix rfl) (pe_ix ix_seq (do_b (pv 0)) (do_b (pv 3)) (fun _ _ => rfl)))))
    ds_nil))
    (ds_cons (ds_ret (de_ca (cd_tup rfl) (pe_callTy call_tuple_of rfl T.b_tuple (by decide +kernel) (da_cons (do_b (pv 2)) da_nil))))
    ds_nil)))
theorem sc__law_row_start : FnScope ["images", "long", "row", "lap"] ["images", "long"] (defScope s__law_row_start) := ⟨rfl, rfl, rfl, by decide +kernel, rfl, by decide +kernel, by decide +kernel⟩
def g__law_row_start_1 : GS := (sSeq (sRet (eSl (oB 2) pNo (pSo (eVar 1))))
  sNil)
def g__law_row_start_2 : GS := (sSeq (sIf (gV (eBin (dCmp fun i j => decide (i < j)) (oE (eCa nLen (aCons (oB 2) aNil))) (oB 1))) (sSeq (sSet 2 (eCallN 2 df__law_image (aCons (oE (eVar 0)) (aCons (oE (eVar 2)) aNil))))
  sNil) sNil)
  sNil)
def g__law_row_start_3 : GS := (sSeq (sFor (iR1 (aCons (oB 1) aNil)) (gNm 3) g__law_row_start_2)
  g__law_row_start_1)
abbrev g__law_row_start : GS := (sSeq (sSet 2 (eTup (aCons (oE (eC (.int 0))) aNil)))
  g__law_row_start_3)
def df__law_row_start : DF := dfOf 2 g__law_row_start
theorem ok__law_row_start {P : Program} {w : World} {base : Heap} {A : Am} (T : Txt A) {fd : FuncData} (F : Fun A.K "_law_row_start" "_law_row_start" s__law_row_start (A.ad "_law_row_start") fd) : FnOk P w A.K A.mg base (L2.CX P w) 2 (A.ad "_law_row_start") fd ["images", "long"] (spD A 2 df__law_row_start) := by
  obtain ⟨fd__law_image, F__law_image, B__law_image⟩ := T.f__law_image.fn
  have G__law_image := ok__law_image (P := P) (w := w) (base := base) T F__law_image
  refine fnD (k := 1) F sc__law_row_start (fun cdv Ar outer s H E hr => ?_) (fun _ _ _ _ _ h => h)
  exact (ds_cons (ds_set (i := 2) sc__law_row_start.nd rfl (by first | exact .inl rfl | exact .inr rfl) (de_tup (pe_tup (da_cons (do_e (de_c pe_int (fun _ => .int _))) da_nil))))
    (ds_cons (ds_for (vs := [3]) (passes_of rfl) rfl (di_r1 rfl T.b_range (da_cons (do_b (pv 1)) da_nil)) (dg_name (by decide) sc__law_row_start.nd rfl (by first | exact .inl rfl | exact .inr rfl)) (ds_cons (ds_if (dt_cmpR (od_cmp fun i j => decide (i < j)) op_lt (do_e (de_ca (cd_len rfl) (pe_callB cr_lenA rfl T.b_len (by decide +kernel) (da_cons (do_b (pv 2)) da_nil)))) (do_b (pv 1)) (nomark _)) (ds_cons (ds_set (i := 2) sc__law_row_start.nd rfl (by first | exact .inl rfl | exact .inr rfl) (de_call G__law_image (hr.mono (by decide)) rfl T.f__law_image.mg T.f__law_image.kp B__law_image (passE (takes_of rfl rfl rfl rfl)) (da_cons (do_e (de_var (pv 0))) (da_cons (do_e (de_var (pv 2))) da_nil))))
    ds_nil) ds_nil)
    ds_nil))
    (ds_cons (ds_ret (de_sl rfl (do_b (pv 2)) dp_no (dp_so (de_var (pv 1)))))
    ds_nil)))
theorem sc__law_is : FnScope ["told", "due", "at"] ["told", "due"] (defScope s__law_is) := ⟨rfl, rfl, rfl, by decide +kernel, rfl, by decide +kernel, by decide +kernel⟩
abbrev g__law_is (rec : DF) : GS := (sSeq (sIf (gTr (eCa (nIsi (["Rule"] : List Str)) (aCons (oB 1) (aCons (oE (eC (.ty "tuple"))) aNil)))) (sSeq (sIf (gOr (gNot (gTr (eCa (nIsi (["Rule"] : List Str)) (aCons (oB 0) (aCons (oE (eC (.ty "tuple"))) aNil))))) (gV (eBin dNe (oE (eCa nLen (aCons (oB 0) aNil))) (oE (eCa nLen (aCons (oB 1) aNil)))))) (sSeq (sRet (eC (.bl false)))
  sNil) sNil)
  (sSeq (sRet (eBin dEq (oE (eLc (iR1 (aCons (oE (eCa nLen (aCons (oB 1) aNil))) aNil)) (gNm 2) (gNot (gTr (eCallN 2 rec (aCons (oE (eBin dIx (oB 0) (oB 2))) (aCons (oE (eBin dIx (oB 1) (oB 2))) aNil))))) (eVar 2) [2])) (oE (eLst aNil))))
  sNil)) sNil)
  (sSeq (sIf (gV (eBin (dIsN false) (oB 1) (oE (eC .non)))) (sSeq (sRet (eBin (dIsN false) (oB 0) (oE (eC .non))))
  sNil) sNil)
  (sSeq (sIf (gV (eBin (dIsB false) (oB 1) (oE (eC (.bl true))))) (sSeq (sRet (eBin (dIsB false) (oB 0) (oE (eC (.bl true)))))
  sNil) sNil)
  (sSeq (sIf (gV (eBin (dIsB false) (oB 1) (oE (eC (.bl false))))) (sSeq (sRet (eBin (dIsB false) (oB 0) (oE (eC (.bl false)))))
  sNil) sNil)
  (sSeq (sIf (gTr (eCa (nIsi (["Rule"] : List Str)) (aCons (oB 1) (aCons (oE (eC (.ty "str"))) aNil)))) (sSeq (sRet (eAnd (eCa (nIsi (["Rule"] : List Str)) (aCons (oB 0) (aCons (oE (eC (.ty "str"))) aNil))) (eBin dEq (oB 0) (oB 1))))
  sNil) sNil)
  (sSeq (sRet (eAnd (eCa (nIsi (["Rule"] : List Str)) (aCons (oB 0) (aCons (oE (eC (.ty "int"))) aNil))) (eAnd (eNot (eCa (nIsi (["Rule"] : List Str)) (aCons (oB 0) (aCons (oE (eC (.ty "bool"))) aNil)))) (eBin dEq (oB 0) (oB 1)))))
  sNil))))))
def df__law_is_n : Nat → DF
  | 0 => fun _ _ _ => False
  | k + 1 => dfOf 1 (g__law_is (df__law_is_n k))
def df__law_is : DF := df__law_is_n 6
theorem ok__law_is_n {P : Program} {w : World} {base : Heap} {A : Am} (T : Txt A) {fd : FuncData} (F : Fun A.K "_law_is" "_law_is" s__law_is (A.ad "_law_is") fd) (B__law_is : Binds A.K fd ["told", "due"] []) : ∀ k : Nat, FnOk P w A.K A.mg base (L2.CX P w) (1 + k) (A.ad "_law_is") fd ["told", "due"] (spD A 2 (df__law_is_n k))
  | 0 => ⟨fun vs H Q E h => h.1, fun _ _ _ _ _ _ _ _ _ _ _ _ _ h => by obtain ⟨_, _, _, _, _, _, _, z, _⟩ := h; exact z.elim⟩
  | k + 1 => by
    have G__law_is := ok__law_is_n (P := P) (w := w) (base := base) T F B__law_is k
    refine fnD (k := 1 + k) F sc__law_is (fun cdv Ar outer s H E hr => ?_) (fun _ _ _ _ _ h => h)
    exact (ds_cons (ds_if (dt_true rfl (de_ca (cd_isi rfl T.cls) (pe_callB cr_isiA rfl T.b_isinstance (by decide +kernel) (da_cons (do_b (pv 1)) (da_cons (do_e (de_c (pe_bty rfl T.b_tuple (by decide +kernel)) (fun _ => .ty _))) da_nil)))) (fun _ => rfl)) (ds_cons (ds_if (PW.pt (dw_or (dt_not (dt_true rfl (de_ca (cd_isi rfl T.cls) (pe_callB cr_isiA rfl T.b_isinstance (by decide +kernel) (da_cons (do_b (pv 0)) (da_cons (do_e (de_c (pe_bty rfl T.b_tuple (by decide +kernel)) (fun _ => .ty _))) da_nil)))) (fun _ => rfl))) (dw_or1 (dt_cmpR (od_ne rfl) (op_neD (u64 hr)) (do_e (de_ca (cd_len rfl) (pe_callB cr_lenA rfl T.b_len (by decide +kernel) (da_cons (do_b (pv 0)) da_nil)))) (do_e (de_ca (cd_len rfl) (pe_callB cr_lenA rfl T.b_len (by decide +kernel) (da_cons (do_b (pv 1)) da_nil)))) (nomark _))))) (ds_cons (ds_ret (de_c pe_bl (fun _ => .bl _)))
    ds_nil) ds_nil)
    (ds_cons (ds_ret (de_cmpR (od_eq rfl) (op_eqD (u64 hr)) (do_e (de_lc (own := [("at", 2)]) rfl sc__law_is.nd (di_r1 rfl T.b_range (da_cons (do_e (de_ca (cd_len rfl) (pe_callB cr_lenA rfl T.b_len (by decide +kernel) (da_cons (do_b (pv 1)) da_nil)))) da_nil)) (blkOk_by (N := ["told", "due", "at"]) (sc := defScope s__law_is) (own := [("at", 2)]) (by decide +kernel)) (fun _ _ _ _ _ => (dg_name (by decide) sc__law_is.nd rfl (by first | exact .inl rfl | exact .inr rfl))) (fun _ _ _ _ _ => (dts_one (dt_not (dt_true rfl (de_call G__law_is (hr.mono (by omega)) rfl T.f__law_is.mg T.f__law_is.kp B__law_is passF (da_cons (do_e (de_bin (od_ix rfl) (pe_ix ix_seq (do_b (pv 0)) (do_b (pv 2)) (fun _ _ => rfl)))) (da_cons (do_e (de_bin (od_ix rfl) (pe_ix ix_seq (do_b (pv 1)) (do_b (pv 2)) (fun _ _ => rfl)))) da_nil))) (fun _ => rfl))))) (fun _ _ _ _ _ => (de_var (pv 2))))) (do_e (de_lst (pe_lst da_nil))) (nomark _)))
    ds_nil)) ds_nil)
    (ds_cons (ds_if (dt_cmpR (od_isN false) op_isN0 (do_b (pv 1)) (do_e (de_c pe_non (fun _ => .non))) (nomark _)) (ds_cons (ds_ret (de_cmpR (od_isN false) op_isN0 (do_b (pv 0)) (do_e (de_c pe_non (fun _ => .non))) (nomark _)))
    ds_nil) ds_nil)
    (ds_cons (ds_if (dt_cmpR (od_isB false) op_isB0 (do_b (pv 1)) (do_e (de_c pe_bl (fun _ => .bl _))) (nomark _)) (ds_cons (ds_ret (de_cmpR (od_isB false) op_isB0 (do_b (pv 0)) (do_e (de_c pe_bl (fun _ => .bl _))) (nomark _)))
    ds_nil) ds_nil)
    (ds_cons (ds_if (dt_cmpR (od_isB false) op_isB0 (do_b (pv 1)) (do_e (de_c pe_bl (fun _ => .bl _))) (nomark _)) (ds_cons (ds_ret (de_cmpR (od_isB false) op_isB0 (do_b (pv 0)) (do_e (de_c pe_bl (fun _ => .bl _))) (nomark _)))
    ds_nil) ds_nil)
    (ds_cons (ds_if (dt_true rfl (de_ca (cd_isi rfl T.cls) (pe_callB cr_isiA rfl T.b_isinstance (by decide +kernel) (da_cons (do_b (pv 1)) (da_cons (do_e (de_c (pe_bty rfl T.b_str (by decide +kernel)) (fun _ => .ty _))) da_nil)))) (fun _ => rfl)) (ds_cons (ds_ret (de_and (de_ca (cd_isi rfl T.cls) (pe_callB cr_isiA rfl T.b_isinstance (by decide +kernel) (da_cons (do_b (pv 0)) (da_cons (do_e (de_c (pe_bty rfl T.b_str (by decide +kernel)) (fun _ => .ty _))) da_nil)))) (de_one (de_cmpR (od_eq rfl) (op_eqD (u64 hr)) (do_b (pv 0)) (do_b (pv 1)) (nomark _)))))
    ds_nil) ds_nil)
    (ds_cons (ds_ret (de_and (de_ca (cd_isi rfl T.cls) (pe_callB cr_isiA rfl T.b_isinstance (by decide +kernel) (da_cons (do_b (pv 0)) (da_cons (do_e (de_c (pe_bty rfl T.b_int (by decide +kernel)) (fun _ => .ty _))) da_nil)))) (de_and (de_not (de_ca (cd_isi rfl T.cls) (pe_callB cr_isiA rfl T.b_isinstance (by decide +kernel) (da_cons (do_b (pv 0)) (da_cons (do_e (de_c (pe_bty rfl T.b_bool (by decide +kernel)) (fun _ => .ty _))) da_nil))))) (de_one (de_cmpR (od_eq rfl) (op_eqD (u64 hr)) (do_b (pv 0)) (do_b (pv 1)) (nomark _))))))
    ds_nil))))))
theorem ok__law_is {P : Program} {w : World} {base : Heap} {A : Am} (T : Txt A) {fd : FuncData} (F : Fun A.K "_law_is" "_law_is" s__law_is (A.ad "_law_is") fd) : FnOk P w A.K A.mg base (L2.CX P w) 7 (A.ad "_law_is") fd ["told", "due"] (spD A 2 df__law_is) := by
  obtain ⟨fd2, F2, B2⟩ := T.f__law_is.fn
  have e : fd2 = fd := fun_uniq F2 F
  subst e
  exact ok__law_is_n T F2 B2 6
theorem sc__law_renamed : FnScope ["images", "names", "found", "letter", "image", "one"] ["images", "names"] (defScope s__law_renamed) := ⟨rfl, rfl, rfl, by decide +kernel, rfl, by decide +kernel, by decide +kernel⟩
def g__law_renamed_1 : GS := (sSeq (sRet (eCa nTup (aCons (oB 2) aNil)))
  sNil)
def g__law_renamed_2 : GS := (sSeq (sPutL 2 (eBin dIx (oB 1) (oB 3)) (eCa nTup (aCons (oE (eLc (iE (eVar 4)) (gNm 5) tYesD (eBin dIx (oB 1) (oB 5)) [5])) aNil)))
  sNil)
def g__law_renamed_3 : GS := (sSeq (sFor (iEn (aCons (oE (eVar 0)) aNil)) (gTp 2 (ggCons (gNm 3) (ggCons (gNm 4) ggNil))) g__law_renamed_2)
  g__law_renamed_1)
abbrev g__law_renamed : GS := (sSeq (sSet 2 (eBin dMul (oE (eLst (aCons (oE (eTup aNil)) aNil))) (oE (eCa nLen (aCons (oB 0) aNil)))))
  g__law_renamed_3)
def df__law_renamed : DF := dfOf 4 g__law_renamed
theorem ok__law_renamed {P : Program} {w : World} {base : Heap} {A : Am} (T : Txt A) {fd : FuncData} (F : Fun A.K "_law_renamed" "_law_renamed" s__law_renamed (A.ad "_law_renamed") fd) : FnOk P w A.K A.mg base (L2.CX P w) 1 (A.ad "_law_renamed") fd ["images", "names"] (spD A 2 df__law_renamed) := by
  refine fnD (k := 0) F sc__law_renamed (fun cdv Ar outer s H E hr => ?_) (fun _ _ _ _ _ h => h)
  exact (ds_cons (ds_set (i := 2) sc__law_renamed.nd rfl (by first | exact .inl rfl | exact .inr rfl) (de_bin (od_mul rfl) (pe_op op_mul3 (do_e (de_lst (pe_lst (da_cons (do_e (de_tup (pe_tup da_nil))) da_nil)))) (do_e (de_ca (cd_len rfl) (pe_callB cr_lenA rfl T.b_len (by decide +kernel) (da_cons (do_b (pv 0)) da_nil)))))))
    (ds_cons (ds_for (vs := [3, 4]) (passes_of rfl) rfl (di_en rfl rfl T.b_enumerate (da_cons (do_e (de_var (pv 0))) da_nil)) (dg_tup rfl rfl (dgs_cons (dg_name (by decide) sc__law_renamed.nd rfl (by first | exact .inl rfl | exact .inr rfl)) (dgs_cons (dg_name (by decide) sc__law_renamed.nd rfl (by first | exact .inl rfl | exact .inr rfl)) dgs_nil))) (ds_cons (ds_putL (i := 2) (pv 2) (de_bin (od_ix rfl) (pe_ix ix_seq (do_b (pv 1)) (do_b (pv 3)) (fun _ _ => rfl))) (de_ca (cd_tup rfl) (pe_callTy call_tuple_of rfl T.b_tuple (by decide +kernel) (da_cons (do_e (de_lc (own := [("one", 5)]) rfl sc__law_renamed.nd (di_e rfl (de_var (pv 4))) (blkOk_by (N := ["images", "names", "found", "letter", "image", "one"]) (sc := defScope s__law_renamed) (own := [("one", 5)]) (by decide +kernel)) (fun _ _ _ _ _ => (dg_name (by decide) sc__law_renamed.nd rfl (by first | exact .inl rfl | exact .inr rfl))) (fun _ _ _ _ _ => dts_nil) (fun _ _ _ _ _ => (de_bin (od_ix rfl) (pe_ix ix_seq (do_b (pv 1)) (do_b (pv 5)) (fun _ _ => rfl)))))) da_nil))))
    ds_nil))
    (ds_cons (ds_ret (de_ca (cd_tup rfl) (pe_callTy call_tuple_of rfl T.b_tuple (by decide +kernel) (da_cons (do_b (pv 2)) da_nil))))
    ds_nil)))
theorem sc__law_names : FnScope ["images", "row", "found", "letter"] ["images"] (defScope s__law_names) := ⟨rfl, rfl, rfl, by decide +kernel, rfl, by decide +kernel, by decide +kernel⟩
def g__law_names_1 : GS := (sSeq (sRet (eCa nTup (aCons (oE (eLc (iR1 (aCons (oE (eCa nLen (aCons (oB 0) aNil))) aNil)) (gNm 3) tYesD (eBin dDg (oB 2) (oB 3)) [3])) aNil)))
  sNil)
def g__law_names_2 : GS := (sSeq (sIf (gV (eBin (dIn2 true) (oB 3) (oB 2))) (sSeq (sPut 2 (eVar 3) (eCa nLen (aCons (oB 2) aNil)))
  sNil) sNil)
  sNil)
def g__law_names_3 : GS := (sSeq (sFor (iE (eVar 1)) (gNm 3) g__law_names_2)
  g__law_names_1)
abbrev g__law_names : GS := (sSeq (sPar2 1 2 (eCallN 2 df__law_row_start (aCons (oE (eVar 0)) (aCons (oE (eC (.int 4000))) aNil))) eDct0)
  g__law_names_3)
def df__law_names : DF := dfOf 3 g__law_names
theorem ok__law_names {P : Program} {w : World} {base : Heap} {A : Am} (T : Txt A) {fd : FuncData} (F : Fun A.K "_law_names" "_law_names" s__law_names (A.ad "_law_names") fd) : FnOk P w A.K A.mg base (L2.CX P w) 3 (A.ad "_law_names") fd ["images"] (spD A 1 df__law_names) := by
  obtain ⟨fd__law_row_start, F__law_row_start, B__law_row_start⟩ := T.f__law_row_start.fn
  have G__law_row_start := ok__law_row_start (P := P) (w := w) (base := base) T F__law_row_start
  refine fnD (k := 2) F sc__law_names (fun cdv Ar outer s H E hr => ?_) (fun _ _ _ _ _ h => h)
  exact (ds_cons (ds_par2c (i := 1) (j := 2) rfl sc__law_names.nd rfl rfl (by first | exact .inl rfl | exact .inr rfl) (by first | exact .inl rfl | exact .inr rfl) (by first | exact .inl rfl | exact .inr rfl) (by first | exact .inl rfl | exact .inr rfl) (de_call G__law_row_start (hr.mono (by decide)) rfl T.f__law_row_start.mg T.f__law_row_start.kp B__law_row_start (passE (takes_of rfl rfl rfl rfl)) (da_cons (do_e (de_var (pv 0))) (da_cons (do_e (de_c pe_int (fun _ => .int _))) da_nil))) de_dct0 rfl rfl rfl rfl)
    (ds_cons (ds_for (vs := [3]) (passes_of rfl) rfl (di_e rfl (de_var (pv 1))) (dg_name (by decide) sc__law_names.nd rfl (by first | exact .inl rfl | exact .inr rfl)) (ds_cons (ds_if (dt_cmpR (od_in rfl true) (op_notInA (u65 hr)) (do_b (pv 3)) (do_b (pv 2)) (by with_unfolding_all rfl)) (ds_cons (ds_put (i := 2) (u1 hr) (pv 2) (de_var (pv 3)) (de_ca (cd_len rfl) (pe_callB cr_lenA rfl T.b_len (by decide +kernel) (da_cons (do_b (pv 2)) da_nil))))
    ds_nil) ds_nil)
    ds_nil))
    (ds_cons (ds_ret (de_ca (cd_tup rfl) (pe_callTy call_tuple_of rfl T.b_tuple (by decide +kernel) (da_cons (do_e (de_lc (own := [("letter", 3)]) rfl sc__law_names.nd (di_r1 rfl T.b_range (da_cons (do_e (de_ca (cd_len rfl) (pe_callB cr_lenA rfl T.b_len (by decide +kernel) (da_cons (do_b (pv 0)) da_nil)))) da_nil)) (blkOk_by (N := ["images", "row", "found", "letter"]) (sc := defScope s__law_names) (own := [("letter", 3)]) (by decide +kernel)) (fun _ _ _ _ _ => (dg_name (by decide) sc__law_names.nd rfl (by first | exact .inl rfl | exact .inr rfl))) (fun _ _ _ _ _ => dts_nil) (fun _ _ _ _ _ => (de_dg (u1 hr) (do_b (pv 2)) (do_b (pv 3)) (fun _ _ => rfl))))) da_nil))))
    ds_nil)))
theorem sc__law_shuffled : FnScope ["pen", "some", "left", "found", "lap"] ["pen", "some"] (defScope s__law_shuffled) := ⟨rfl, rfl, rfl, by decide +kernel, rfl, by decide +kernel, by decide +kernel⟩
def g__law_shuffled_1 : GS := (sSeq (sRet (eMv 3))
  sNil)
def g__law_shuffled_2 : GS := (sSeq (sDrop (mApp 3 (mPopA 2 (eCallN 2 df__law_draw (aCons (oB 0) (aCons (oE (eCa nLen (aCons (oB 2) aNil))) aNil))))))
  sNil)
def g__law_shuffled_3 : GS := (sSeq (sFor (iR1 (aCons (oE (eCa nLen (aCons (oB 1) aNil))) aNil)) (gNm 4) g__law_shuffled_2)
  g__law_shuffled_1)
abbrev g__law_shuffled : GS := (sSeq (sPar2 2 3 (eCa nList (aCons (oB 1) aNil)) (eLst aNil))
  g__law_shuffled_3)
def df__law_shuffled : DF := dfOf 3 g__law_shuffled
theorem ok__law_shuffled {P : Program} {w : World} {base : Heap} {A : Am} (T : Txt A) {fd : FuncData} (F : Fun A.K "_law_shuffled" "_law_shuffled" s__law_shuffled (A.ad "_law_shuffled") fd) : FnOk P w A.K A.mg base (L2.CX P w) 2 (A.ad "_law_shuffled") fd ["pen", "some"] (spD A 2 df__law_shuffled) := by
  obtain ⟨fd__law_draw, F__law_draw, B__law_draw⟩ := T.f__law_draw.fn
  have G__law_draw := ok__law_draw (P := P) (w := w) (base := base) T F__law_draw
  refine fnD (k := 1) F sc__law_shuffled (fun cdv Ar outer s H E hr => ?_) (fun _ _ _ _ _ h => h)
  exact (ds_cons (ds_par2 (i := 2) (j := 3) rfl sc__law_shuffled.nd rfl rfl (by decide) rfl rfl (de_ca (cd_list rfl) (pe_callTy (cr_listA rfl) rfl T.b_list (by decide +kernel) (da_cons (do_b (pv 1)) da_nil))) (de_lst (pe_lst da_nil)) rfl rfl rfl)
    (ds_cons (ds_for (vs := [4]) (passes_of rfl) rfl (di_r1 rfl T.b_range (da_cons (do_e (de_ca (cd_len rfl) (pe_callB cr_lenA rfl T.b_len (by decide +kernel) (da_cons (do_b (pv 1)) da_nil)))) da_nil)) (dg_name (by decide) sc__law_shuffled.nd rfl (by first | exact .inl rfl | exact .inr rfl)) (ds_cons (ds_expr (de_app (pv 3) (de_popA (pv 2) (de_call G__law_draw (hr.mono (by decide)) rfl T.f__law_draw.mg T.f__law_draw.kp B__law_draw (passE (takes_of rfl rfl rfl rfl)) (da_cons (do_b (pv 0)) (da_cons (do_e (de_ca (cd_len rfl) (pe_callB cr_lenA rfl T.b_len (by decide +kernel) (da_cons (do_b (pv 2)) da_nil)))) da_nil))))))
    ds_nil))
    (ds_cons (ds_ret (de_mv (pv 3)))
    ds_nil)))
theorem sc__law_known_images : FnScope ["pen", "some"] ["pen"] (defScope s__law_known_images) := ⟨rfl, rfl, rfl, by decide +kernel, rfl, by decide +kernel, by decide +kernel⟩
def g__law_known_images_1 : GS := (sSeq (sRet (eCallN 2 df__law_pick (aCons (oB 0) (aCons (oE (eBin dAdd (oB 1) (oE (eLst (aCons (oE (eTup (aCons (oE (eTup (aCons (oE (eC (.int 0))) (aCons (oE (eC (.int 0))) aNil)))) aNil))) (aCons (oE (eTup (aCons (oE (eTup (aCons (oE (eC (.int 0))) (aCons (oE (eC (.int 1))) aNil)))) (aCons (oE (eTup (aCons (oE (eC (.int 0))) (aCons (oE (eC (.int 1))) aNil)))) aNil)))) (aCons (oE (eTup (aCons (oE (eTup (aCons (oE (eC (.int 0))) (aCons (oE (eC (.int 1))) (aCons (oE (eC (.int 2))) aNil))))) (aCons (oE (eTup (aCons (oE (eC (.int 0))) (aCons (oE (eC (.int 1))) (aCons (oE (eC (.int 2))) aNil))))) (aCons (oE (eTup (aCons (oE (eC (.int 0))) (aCons (oE (eC (.int 1))) (aCons (oE (eC (.int 2))) aNil))))) aNil))))) (aCons (oE (eTup (aCons (oE (eTup (aCons (oE (eC (.int 0))) (aCons (oE (eC (.int 1))) (aCons (oE (eC (.int 1))) aNil))))) (aCons (oE (eTup (aCons (oE (eC (.int 0))) aNil))) aNil)))) (aCons (oE (eTup (aCons (oE (eTup (aCons (oE (eC (.int 0))) (aCons (oE (eC (.int 1))) aNil)))) (aCons (oE (eTup (aCons (oE (eC (.int 2))) aNil))) (aCons (oE (eTup (aCons (oE (eC (.int 0))) aNil))) aNil))))) aNil))))))))) aNil))))
  sNil)
abbrev g__law_known_images : GS := (sSeq (sSet 1 (eLst (aCons (oE (eTup (aCons (oE (eTup (aCons (oE (eC (.int 0))) (aCons (oE (eC (.int 1))) aNil)))) (aCons (oE (eTup (aCons (oE (eC (.int 0))) aNil))) aNil)))) (aCons (oE (eTup (aCons (oE (eTup (aCons (oE (eC (.int 0))) (aCons (oE (eC (.int 1))) aNil)))) (aCons (oE (eTup (aCons (oE (eC (.int 1))) (aCons (oE (eC (.int 0))) aNil)))) aNil)))) (aCons (oE (eTup (aCons (oE (eTup (aCons (oE (eC (.int 0))) (aCons (oE (eC (.int 1))) aNil)))) (aCons (oE (eTup (aCons (oE (eC (.int 0))) (aCons (oE (eC (.int 0))) aNil)))) aNil)))) (aCons (oE (eTup (aCons (oE (eTup (aCons (oE (eC (.int 0))) (aCons (oE (eC (.int 1))) aNil)))) (aCons (oE (eTup (aCons (oE (eC (.int 0))) (aCons (oE (eC (.int 2))) aNil)))) (aCons (oE (eTup (aCons (oE (eC (.int 0))) aNil))) aNil))))) (aCons (oE (eTup (aCons (oE (eTup (aCons (oE (eC (.int 0))) (aCons (oE (eC (.int 0))) (aCons (oE (eC (.int 1))) (aCons (oE (eC (.int 0))) aNil)))))) (aCons (oE (eTup (aCons (oE (eC (.int 1))) (aCons (oE (eC (.int 0))) aNil)))) aNil)))) (aCons (oE (eTup (aCons (oE (eTup (aCons (oE (eC (.int 0))) (aCons (oE (eC (.int 1))) aNil)))) (aCons (oE (eTup (aCons (oE (eC (.int 0))) (aCons (oE (eC (.int 2))) aNil)))) (aCons (oE (eTup (aCons (oE (eC (.int 3))) (aCons (oE (eC (.int 1))) aNil)))) (aCons (oE (eTup (aCons (oE (eC (.int 3))) (aCons (oE (eC (.int 2))) aNil)))) aNil)))))) aNil))))))))
  g__law_known_images_1)
def df__law_known_images : DF := dfOf 1 g__law_known_images
theorem ok__law_known_images {P : Program} {w : World} {base : Heap} {A : Am} (T : Txt A) {fd : FuncData} (F : Fun A.K "_law_known_images" "_law_known_images" s__law_known_images (A.ad "_law_known_images") fd) : FnOk P w A.K A.mg base (L2.CX P w) 3 (A.ad "_law_known_images") fd ["pen"] (spD A 1 df__law_known_images) := by
  obtain ⟨fd__law_pick, F__law_pick, B__law_pick⟩ := T.f__law_pick.fn
  have G__law_pick := ok__law_pick (P := P) (w := w) (base := base) T F__law_pick
  refine fnD (k := 2) F sc__law_known_images (fun cdv Ar outer s H E hr => ?_) (fun _ _ _ _ _ h => h)
  exact (ds_cons (ds_set (i := 1) sc__law_known_images.nd rfl (by first | exact .inl rfl | exact .inr rfl) (de_lst (pe_lst (da_cons (do_e (de_tup (pe_tup (da_cons (do_e (de_tup (pe_tup (da_cons (do_e (de_c pe_int (fun _ => .int _))) (da_cons (do_e (de_c pe_int (fun _ => .int _))) da_nil))))) (da_cons (do_e (de_tup (pe_tup (da_cons (do_e (de_c pe_int (fun _ => .int _))) da_nil)))) da_nil))))) (da_cons (do_e (de_tup (pe_tup (da_cons (do_e (de_tup (pe_tup (da_cons (do_e (de_c pe_int (fun _ => .int _))) (da_cons (do_e (de_c pe_int (fun _ => .int _))) da_nil))))) (da_cons (do_e (de_tup (pe_tup (da_cons (do_e (de_c pe_int (fun _ => .int _))) (da_cons (do_e (de_c pe_int (fun _ => .int _))) da_nil))))) da_nil))))) (da_cons (do_e (de_tup (pe_tup (da_cons (do_e (de_tup (pe_tup (da_cons (do_e (de_c pe_int (fun _ => .int _))) (da_cons (do_e (de_c pe_int (fun _ => .int _))) da_nil))))) (da_cons (do_e (de_tup (pe_tup (da_cons (do_e (de_c pe_int (fun _ => .int _))) (da_cons (do_e (de_c pe_int (fun _ => .int _))) da_nil))))) da_nil))))) (da_cons (do_e (de_tup (pe_tup (da_cons (do_e (de_tup (pe_tup (da_cons (do_e (de_c pe_int (fun _ => .int _))) (da_cons (do_e (de_c pe_int (fun _ => .int _))) da_nil))))) (da_cons (do_e (de_tup (pe_tup (da_cons (do_e (de_c pe_int (fun _ => .int _))) (da_cons (do_e (de_c pe_int (fun _ => .int _))) da_nil))))) (da_cons (do_e (de_tup (pe_tup (da_cons (do_e (de_c pe_int (fun _ => .int _))) da_nil)))) da_nil)))))) (da_cons (do_e (de_tup (pe_tup (da_cons (do_e (de_tup (pe_tup (da_cons (do_e (de_c pe_int (fun _ => .int _))) (da_cons (do_e (de_c pe_int (fun _ => .int _))) (da_cons (do_e (de_c pe_int (fun _ => .int _))) (da_cons (do_e (de_c pe_int (fun _ => .int _))) da_nil))))))) (da_cons (do_e (de_tup (pe_tup (da_cons (do_e (de_c pe_int (fun _ => .int _))) (da_cons (do_e (de_c pe_int (fun _ => .int _))) da_nil))))) da_nil))))) (da_cons (do_e (de_tup (pe_tup (da_cons (do_e (de_tup (pe_tup (da_cons (do_e (de_c pe_int (fun _ => .int _))) (da_cons (do_e (de_c pe_int (fun _ => .int _))) da_nil))))) (da_cons (do_e (de_tup (pe_tup (da_cons (do_e (de_c pe_int (fun _ => .int _))) (da_cons (do_e (de_c pe_int (fun _ => .int _))) da_nil))))) (da_cons (do_e (de_tup (pe_tup (da_cons (do_e (de_c pe_int (fun _ => .int _))) (da_cons (do_e (de_c pe_int (fun _ => .int _))) da_nil))))) (da_cons (do_e (de_tup (pe_tup (da_cons (do_e (de_c pe_int (fun _ => .int _))) (da_cons (do_e (de_c pe_int (fun _ => .int _))) da_nil))))) da_nil))))))) da_nil)))))))))
    (ds_cons (ds_ret (de_call G__law_pick (hr.mono (by decide)) rfl T.f__law_pick.mg T.f__law_pick.kp B__law_pick (passE (takes_of rfl rfl rfl rfl)) (da_cons (do_b (pv 0)) (da_cons (do_e (de_bin (od_add rfl) (pe_op op_add4 (do_b (pv 1)) (do_e (de_lst (pe_lst (da_cons (do_e (de_tup (pe_tup (da_cons (do_e (de_tup (pe_tup (da_cons (do_e (de_c pe_int (fun _ => .int _))) (da_cons (do_e (de_c pe_int (fun _ => .int _))) da_nil))))) da_nil)))) (da_cons (do_e (de_tup (pe_tup (da_cons (do_e (de_tup (pe_tup (da_cons (do_e (de_c pe_int (fun _ => .int _))) (da_cons (do_e (de_c pe_int (fun _ => .int _))) da_nil))))) (da_cons (do_e (de_tup (pe_tup (da_cons (do_e (de_c pe_int (fun _ => .int _))) (da_cons (do_e (de_c pe_int (fun _ => .int _))) da_nil))))) da_nil))))) (da_cons (do_e (de_tup (pe_tup (da_cons (do_e (de_tup (pe_tup (da_cons (do_e (de_c pe_int (fun _ => .int _))) (da_cons (do_e (de_c pe_int (fun _ => .int _))) (da_cons (do_e (de_c pe_int (fun _ => .int _))) da_nil)))))) (da_cons (do_e (de_tup (pe_tup (da_cons (do_e (de_c pe_int (fun _ => .int _))) (da_cons (do_e (de_c pe_int (fun _ => .int _))) (da_cons (do_e (de_c pe_int (fun _ => .int _))) da_nil)))))) (da_cons (do_e (de_tup (pe_tup (da_cons (do_e (de_c pe_int (fun _ => .int _))) (da_cons (do_e (de_c pe_int (fun _ => .int _))) (da_cons (do_e (de_c pe_int (fun _ => .int _))) da_nil)))))) da_nil)))))) (da_cons (do_e (de_tup (pe_tup (da_cons (do_e (de_tup (pe_tup (da_cons (do_e (de_c pe_int (fun _ => .int _))) (da_cons (do_e (de_c pe_int (fun _ => .int _))) (da_cons (do_e (de_c pe_int (fun _ => .int _))) da_nil)))))) (da_cons (do_e (de_tup (pe_tup (da_cons (do_e (de_c pe_int (fun _ => .int _))) da_nil)))) da_nil))))) (da_cons (do_e (de_tup (pe_tup (da_cons (do_e (de_tup (pe_tup (da_cons (do_e (de_c pe_int (fun _ => .int _))) (da_cons (do_e (de_c pe_int (fun _ => .int _))) da_nil))))) (da_cons (do_e (de_tup (pe_tup (da_cons (do_e (de_c pe_int (fun _ => .int _))) da_nil)))) (da_cons (do_e (de_tup (pe_tup (da_cons (do_e (de_c pe_int (fun _ => .int _))) da_nil)))) da_nil)))))) da_nil))))))))))) da_nil))))
    ds_nil))
theorem sc__law_led_lot : FnScope ["images", "lot", "some", "letter"] ["images", "lot"] (defScope s__law_led_lot) := ⟨rfl, rfl, rfl, by decide +kernel, rfl, by decide +kernel, by decide +kernel⟩
def g__law_led_lot_1 : GS := (sSeq (sRet (eCa nSSet (aCons (oB 2) aNil)))
  sNil)
def g__law_led_lot_2 : GS := (sSeq (sDrop (mExt 2 (eBin dIx (oB 0) (oB 3))))
  sNil)
def g__law_led_lot_3 : GS := (sSeq (sFor (iE (eVar 1)) (gNm 3) g__law_led_lot_2)
  g__law_led_lot_1)
abbrev g__law_led_lot : GS := (sSeq (sSet 2 (eLst aNil))
  g__law_led_lot_3)
def df__law_led_lot : DF := dfOf 2 g__law_led_lot
theorem ok__law_led_lot {P : Program} {w : World} {base : Heap} {A : Am} (T : Txt A) {fd : FuncData} (F : Fun A.K "_law_led_lot" "_law_led_lot" s__law_led_lot (A.ad "_law_led_lot") fd) : FnOk P w A.K A.mg base (L2.CX P w) 1 (A.ad "_law_led_lot") fd ["images", "lot"] (spD A 2 df__law_led_lot) := by
  refine fnD (k := 0) F sc__law_led_lot (fun cdv Ar outer s H E hr => ?_) (fun _ _ _ _ _ h => h)
  exact (ds_cons (ds_set (i := 2) sc__law_led_lot.nd rfl (by first | exact .inl rfl | exact .inr rfl) (de_lst (pe_lst da_nil)))
    (ds_cons (ds_for (vs := [3]) (passes_of rfl) rfl (di_e rfl (de_var (pv 1))) (dg_name (by decide) sc__law_led_lot.nd rfl (by first | exact .inl rfl | exact .inr rfl)) (ds_cons (ds_expr (de_ext rfl (pv 2) (de_bin (od_ix rfl) (pe_ix ix_seq (do_b (pv 0)) (do_b (pv 3)) (fun _ _ => rfl)))))
    ds_nil))
    (ds_cons (ds_ret (de_sset rfl (pe_callB (cr_sortedSet rfl) rfl T.b_sorted (by decide +kernel) (pa_cons (pe_callTy (cr_setI rfl) rfl T.b_set (by decide +kernel) (da_cons (do_b (pv 2)) da_nil)) pa_nil))))
    ds_nil)))
theorem sc__law_is_primitive : FnScope ["images", "many", "lots", "lap", "image", "one"] ["images"] (defScope s__law_is_primitive) := ⟨rfl, rfl, rfl, by decide +kernel, rfl, by decide +kernel, by decide +kernel⟩
def g__law_is_primitive_1 : GS := (sSeq (sRet (eC (.bl false)))
  sNil)
def g__law_is_primitive_2 : GS := (sSeq (sSet 2 (eLc (iE (eVar 2)) (gNm 5) tYesD (eCallN 2 df__law_led_lot (aCons (oE (eVar 0)) (aCons (oE (eVar 5)) aNil))) [5]))
  sNil)
def g__law_is_primitive_3 : GS := (sSeq (sIf (gV (eBin dEq (oE (eLc (iE (eVar 2)) (gNm 5) (gV (eBin dNe (oE (eCa nLen (aCons (oB 5) aNil))) (oB 1))) (eC (.int 1)) [5])) (oE (eLst aNil)))) (sSeq (sRet (eC (.bl true)))
  sNil) sNil)
  g__law_is_primitive_2)
def g__law_is_primitive_4 : GS := (sSeq (sFor (iR1 (aCons (oE (eBin dAdd (oE (eBin dMul (oB 1) (oB 1))) (oE (eC (.int 1))))) aNil)) (gNm 3) g__law_is_primitive_3)
  g__law_is_primitive_1)
def g__law_is_primitive_5 : GS := (sSeq (sSet 2 (eLc (iE (eVar 0)) (gNm 4) tYesD (eCa nSSet (aCons (oB 4) aNil)) [4]))
  g__law_is_primitive_4)
abbrev g__law_is_primitive : GS := (sSeq (sSet 1 (eCa nLen (aCons (oB 0) aNil)))
  g__law_is_primitive_5)
def df__law_is_primitive : DF := dfOf 5 g__law_is_primitive
theorem ok__law_is_primitive {P : Program} {w : World} {base : Heap} {A : Am} (T : Txt A) {fd : FuncData} (F : Fun A.K "_law_is_primitive" "_law_is_primitive" s__law_is_primitive (A.ad "_law_is_primitive") fd) : FnOk P w A.K A.mg base (L2.CX P w) 2 (A.ad "_law_is_primitive") fd ["images"] (spD A 1 df__law_is_primitive) := by
  obtain ⟨fd__law_led_lot, F__law_led_lot, B__law_led_lot⟩ := T.f__law_led_lot.fn
  have G__law_led_lot := ok__law_led_lot (P := P) (w := w) (base := base) T F__law_led_lot
  refine fnD (k := 1) F sc__law_is_primitive (fun cdv Ar outer s H E hr => ?_) (fun _ _ _ _ _ h => h)
  exact (ds_cons (ds_set (i := 1) sc__law_is_primitive.nd rfl (by first | exact .inl rfl | exact .inr rfl) (de_ca (cd_len rfl) (pe_callB cr_lenA rfl T.b_len (by decide +kernel) (da_cons (do_b (pv 0)) da_nil))))
    (ds_cons (ds_setLc (own := [("image", 4)]) (i := 2) rfl sc__law_is_primitive.nd rfl rfl (sw_true rfl rfl rfl (by decide +kernel)) (di_e rfl (de_var (pv 0))) (blkOk_by (N := ["images", "many", "lots", "lap", "image", "one"]) (sc := defScope s__law_is_primitive) (own := [("image", 4)]) (by decide +kernel)) (fun _ _ _ _ _ => (dg_name (by decide) sc__law_is_primitive.nd rfl (by first | exact .inl rfl | exact .inr rfl))) (fun _ _ _ _ _ => dts_nil) (fun _ _ _ _ _ => (de_sset rfl (pe_callB (cr_sortedSet rfl) rfl T.b_sorted (by decide +kernel) (pa_cons (pe_callTy (cr_setI rfl) rfl T.b_set (by decide +kernel) (da_cons (do_b (pv 4)) da_nil)) pa_nil)))))
    (ds_cons (ds_for (vs := [3]) (passes_of rfl) rfl (di_r1 rfl T.b_range (da_cons (do_e (de_bin (od_add rfl) (pe_op op_add4 (do_e (de_bin (od_mul rfl) (pe_op op_mul3 (do_b (pv 1)) (do_b (pv 1))))) (do_e (de_c pe_int (fun _ => .int _)))))) da_nil)) (dg_name (by decide) sc__law_is_primitive.nd rfl (by first | exact .inl rfl | exact .inr rfl)) (ds_cons (ds_if (dt_cmpR (od_eq rfl) (op_eqD (u64 hr)) (do_e (de_lc (own := [("one", 5)]) rfl sc__law_is_primitive.nd (di_e rfl (de_var (pv 2))) (blkOk_by (N := ["images", "many", "lots", "lap", "image", "one"]) (sc := defScope s__law_is_primitive) (own := [("one", 5)]) (by decide +kernel)) (fun _ _ _ _ _ => (dg_name (by decide) sc__law_is_primitive.nd rfl (by first | exact .inl rfl | exact .inr rfl))) (fun _ _ _ _ _ => (dts_one (dt_cmpR (od_ne rfl) (op_neD (u64 hr)) (do_e (de_ca (cd_len rfl) (pe_callB cr_lenA rfl T.b_len (by decide +kernel) (da_cons (do_b (pv 5)) da_nil)))) (do_b (pv 1)) (nomark _)))) (fun _ _ _ _ _ => (de_c pe_int (fun _ => .int _))))) (do_e (de_lst (pe_lst da_nil))) (nomark _)) (ds_cons (ds_ret (de_c pe_bl (fun _ => .bl _)))
    ds_nil) ds_nil)
    (ds_cons (ds_setLc (own := [("one", 5)]) (i := 2) rfl sc__law_is_primitive.nd rfl rfl (sw_true rfl rfl rfl (by decide +kernel)) (di_e rfl (de_var (pv 2))) (blkOk_by (N := ["images", "many", "lots", "lap", "image", "one"]) (sc := defScope s__law_is_primitive) (own := [("one", 5)]) (by decide +kernel)) (fun _ _ _ _ _ => (dg_name (by decide) sc__law_is_primitive.nd rfl (by first | exact .inl rfl | exact .inr rfl))) (fun _ _ _ _ _ => dts_nil) (fun _ _ _ _ _ => (de_call G__law_led_lot (hr.mono (by decide)) rfl T.f__law_led_lot.mg T.f__law_led_lot.kp B__law_led_lot passF (da_cons (do_e (de_var (pv 0))) (da_cons (do_e (de_var (pv 5))) da_nil)))))
    ds_nil)))
    (ds_cons (ds_ret (de_c pe_bl (fun _ => .bl _)))
    ds_nil))))
theorem sc__law_any_images : FnScope ["pen", "most", "many", "found", "letter", "at"] ["pen", "most"] (defScope s__law_any_images) := ⟨rfl, rfl, rfl, by decide +kernel, rfl, by decide +kernel, by decide +kernel⟩
def g__law_any_images_1 : GS := (sSeq (sRet (eCa nTup (aCons (oB 3) aNil)))
  sNil)
def g__law_any_images_2 : GS := (sSeq (sDrop (mApp 3 (eCa nTup (aCons (oE (eLc (iR1 (aCons (oE (eBin dAdd (oE (eC (.int 1))) (oE (eCallN 2 df__law_draw (aCons (oB 0) (aCons (oE (eC (.int 3))) aNil)))))) aNil)) (gNm 5) tYesD (eCallN 2 df__law_draw (aCons (oB 0) (aCons (oE (eVar 2)) aNil))) [5])) aNil))))
  sNil)
def g__law_any_images_3 : GS := (sSeq (sFor (iR2 (aCons (oE (eC (.int 1))) (aCons (oB 2) aNil))) (gNm 4) g__law_any_images_2)
  g__law_any_images_1)
def g__law_any_images_4 : GS := (sSeq (sSet 3 (eLst (aCons (oE (eBin dAdd (oE (eTup (aCons (oE (eC (.int 0))) aNil))) (oE (eCa nTup (aCons (oE (eLc (iR1 (aCons (oE (eBin dAdd (oE (eC (.int 1))) (oE (eCallN 2 df__law_draw (aCons (oB 0) (aCons (oE (eC (.int 2))) aNil)))))) aNil)) (gNm 5) tYesD (eCallN 2 df__law_draw (aCons (oB 0) (aCons (oE (eVar 2)) aNil))) [5])) aNil))))) aNil)))
  g__law_any_images_3)
abbrev g__law_any_images : GS := (sSeq (sSet 2 (eBin dAdd (oE (eC (.int 1))) (oE (eCallN 2 df__law_draw (aCons (oB 0) (aCons (oE (eVar 1)) aNil))))))
  g__law_any_images_4)
def df__law_any_images : DF := dfOf 4 g__law_any_images
theorem ok__law_any_images {P : Program} {w : World} {base : Heap} {A : Am} (T : Txt A) {fd : FuncData} (F : Fun A.K "_law_any_images" "_law_any_images" s__law_any_images (A.ad "_law_any_images") fd) : FnOk P w A.K A.mg base (L2.CX P w) 2 (A.ad "_law_any_images") fd ["pen", "most"] (spD A 2 df__law_any_images) := by
  obtain ⟨fd__law_draw, F__law_draw, B__law_draw⟩ := T.f__law_draw.fn
  have G__law_draw := ok__law_draw (P := P) (w := w) (base := base) T F__law_draw
  refine fnD (k := 1) F sc__law_any_images (fun cdv Ar outer s H E hr => ?_) (fun _ _ _ _ _ h => h)
  exact (ds_cons (ds_set (i := 2) sc__law_any_images.nd rfl (by first | exact .inl rfl | exact .inr rfl) (de_bin (od_add rfl) (pe_op op_add4 (do_e (de_c pe_int (fun _ => .int _))) (do_e (de_call G__law_draw (hr.mono (by decide)) rfl T.f__law_draw.mg T.f__law_draw.kp B__law_draw (passE (takes_of rfl rfl rfl rfl)) (da_cons (do_b (pv 0)) (da_cons (do_e (de_var (pv 1))) da_nil)))))))
    (ds_cons (ds_set (i := 3) sc__law_any_images.nd rfl (by first | exact .inl rfl | exact .inr rfl) (de_lst (pe_lst (da_cons (do_e (de_bin (od_add rfl) (pe_op op_add4 (do_e (de_tup (pe_tup (da_cons (do_e (de_c pe_int (fun _ => .int _))) da_nil)))) (do_e (de_ca (cd_tup rfl) (pe_callTy call_tuple_of rfl T.b_tuple (by decide +kernel) (da_cons (do_e (de_lc (own := [("at", 5)]) rfl sc__law_any_images.nd (di_r1 rfl T.b_range (da_cons (do_e (de_bin (od_add rfl) (pe_op op_add4 (do_e (de_c pe_int (fun _ => .int _))) (do_e (de_call G__law_draw (hr.mono (by decide)) rfl T.f__law_draw.mg T.f__law_draw.kp B__law_draw (passE (takes_of rfl rfl rfl rfl)) (da_cons (do_b (pv 0)) (da_cons (do_e (de_c pe_int (fun _ => .int _))) da_nil))))))) da_nil)) (blkOk_by (N := ["pen", "most", "many", "found", "letter", "at"]) (sc := defScope s__law_any_images) (own := [("at", 5)]) (by decide +kernel)) (fun _ _ _ _ _ => (dg_name (by decide) sc__law_any_images.nd rfl (by first | exact .inl rfl | exact .inr rfl))) (fun _ _ _ _ _ => dts_nil) (fun _ _ _ _ _ => (de_call G__law_draw (hr.mono (by decide)) rfl T.f__law_draw.mg T.f__law_draw.kp B__law_draw passF (da_cons (do_b (pv 0)) (da_cons (do_e (de_var (pv 2))) da_nil)))))) da_nil))))))) da_nil))))
    (ds_cons (ds_for (vs := [4]) (passes_of rfl) rfl (di_r2 rfl T.b_range (da_cons (do_e (de_c pe_int (fun _ => .int _))) (da_cons (do_b (pv 2)) da_nil))) (dg_name (by decide) sc__law_any_images.nd rfl (by first | exact .inl rfl | exact .inr rfl)) (ds_cons (ds_expr (de_app (pv 3) (de_ca (cd_tup rfl) (pe_callTy call_tuple_of rfl T.b_tuple (by decide +kernel) (da_cons (do_e (de_lc (own := [("at", 5)]) rfl sc__law_any_images.nd (di_r1 rfl T.b_range (da_cons (do_e (de_bin (od_add rfl) (pe_op op_add4 (do_e (de_c pe_int (fun _ => .int _))) (do_e (de_call G__law_draw (hr.mono (by decide)) rfl T.f__law_draw.mg T.f__law_draw.kp B__law_draw (passE (takes_of rfl rfl rfl rfl)) (da_cons (do_b (pv 0)) (da_cons (do_e (de_c pe_int (fun _ => .int _))) da_nil))))))) da_nil)) (blkOk_by (N := ["pen", "most", "many", "found", "letter", "at"]) (sc := defScope s__law_any_images) (own := [("at", 5)]) (by decide +kernel)) (fun _ _ _ _ _ => (dg_name (by decide) sc__law_any_images.nd rfl (by first | exact .inl rfl | exact .inr rfl))) (fun _ _ _ _ _ => dts_nil) (fun _ _ _ _ _ => (de_call G__law_draw (hr.mono (by decide)) rfl T.f__law_draw.mg T.f__law_draw.kp B__law_draw passF (da_cons (do_b (pv 0)) (da_cons (do_e (de_var (pv 2))) da_nil)))))) da_nil)))))
    ds_nil))
    (ds_cons (ds_ret (de_ca (cd_tup rfl) (pe_callTy call_tuple_of rfl T.b_tuple (by decide +kernel) (da_cons (do_b (pv 3)) da_nil))))
    ds_nil))))
theorem sc__law_images : FnScope ["pen", "most", "lap", "images"] ["pen", "most"] (defScope s__law_images) := ⟨rfl, rfl, rfl, by decide +kernel, rfl, by decide +kernel, by decide +kernel⟩
def g__law_images_1 : GS := (sSeq (sRet (eCallN 1 df__law_known_images (aCons (oB 0) aNil)))
  sNil)
def g__law_images_2 : GS := (sSeq (sIf (gTr (eCallN 1 df__law_is_primitive (aCons (oE (eVar 3)) aNil))) (sSeq (sRet (eMv 3))
  sNil) sNil)
  sNil)
def g__law_images_3 : GS := (sSeq (sSet 3 (eCallN 2 df__law_any_images (aCons (oB 0) (aCons (oE (eVar 1)) aNil))))
  g__law_images_2)
abbrev g__law_images : GS := (sSeq (sFor (iR1 (aCons (oE (eC (.int 4))) aNil)) (gNm 2) g__law_images_3)
  g__law_images_1)
def df__law_images : DF := dfOf 2 g__law_images
theorem ok__law_images {P : Program} {w : World} {base : Heap} {A : Am} (T : Txt A) {fd : FuncData} (F : Fun A.K "_law_images" "_law_images" s__law_images (A.ad "_law_images") fd) : FnOk P w A.K A.mg base (L2.CX P w) 4 (A.ad "_law_images") fd ["pen", "most"] (spD A 2 df__law_images) := by
  obtain ⟨fd__law_known_images, F__law_known_images, B__law_known_images⟩ := T.f__law_known_images.fn
  have G__law_known_images := ok__law_known_images (P := P) (w := w) (base := base) T F__law_known_images
  obtain ⟨fd__law_is_primitive, F__law_is_primitive, B__law_is_primitive⟩ := T.f__law_is_primitive.fn
  have G__law_is_primitive := ok__law_is_primitive (P := P) (w := w) (base := base) T F__law_is_primitive
  obtain ⟨fd__law_any_images, F__law_any_images, B__law_any_images⟩ := T.f__law_any_images.fn
  have G__law_any_images := ok__law_any_images (P := P) (w := w) (base := base) T F__law_any_images
  refine fnD (k := 3) F sc__law_images (fun cdv Ar outer s H E hr => ?_) (fun _ _ _ _ _ h => h)
  exact (ds_cons (ds_for (vs := [2]) (passes_of rfl) rfl (di_r1 rfl T.b_range (da_cons (do_e (de_c pe_int (fun _ => .int _))) da_nil)) (dg_name (by decide) sc__law_images.nd rfl (by first | exact .inl rfl | exact .inr rfl)) (ds_cons (ds_set (i := 3) sc__law_images.nd rfl (by first | exact .inl rfl | exact .inr rfl) (de_call G__law_any_images (hr.mono (by decide)) rfl T.f__law_any_images.mg T.f__law_any_images.kp B__law_any_images (passE (takes_of rfl rfl rfl rfl)) (da_cons (do_b (pv 0)) (da_cons (do_e (de_var (pv 1))) da_nil))))
    (ds_cons (ds_if (dt_true rfl (de_call G__law_is_primitive (hr.mono (by decide)) rfl T.f__law_is_primitive.mg T.f__law_is_primitive.kp B__law_is_primitive (passE (takes_of rfl rfl rfl rfl)) (da_cons (do_e (de_var (pv 3))) da_nil)) (fun _ => rfl)) (ds_cons (ds_ret (de_mv (pv 3)))
    ds_nil) ds_nil)
    ds_nil)))
    (ds_cons (ds_ret (de_call G__law_known_images (hr.mono (by decide)) rfl T.f__law_known_images.mg T.f__law_known_images.kp B__law_known_images (passE (takes_of rfl rfl rfl rfl)) (da_cons (do_b (pv 0)) da_nil)))
    ds_nil))
theorem sc_Rule_eq : FnScope ["self", "other"] ["self", "other"] (defScope s_Rule_eq) := ⟨rfl, rfl, rfl, by decide +kernel, rfl, by decide +kernel, by decide +kernel⟩
abbrev g_Rule_eq : GS := (sSeq (sRet (eAnd (eCa (nIsi (["Rule"] : List Str)) (aCons (oB 1) (aCons (oE (eC (.top "Rule"))) aNil))) (eBin dEq (oE (eFld ["Rule"] "images" (eVar 0))) (oE (eFld ["Rule"] "images" (eVar 1))))))
  sNil)
def df_Rule_eq : DF := dfOf 0 g_Rule_eq
theorem ok_Rule_eq {P : Program} {w : World} {base : Heap} {A : Am} (T : Txt A) {f : Addr} {fd : FuncData} (F : Fun A.K "__eq__" "Rule.__eq__" s_Rule_eq f fd) : FnOk P w A.K A.mg base (L2.CX P w) 1 f fd ["self", "other"] (spD A 2 df_Rule_eq) := by
  refine fnD (k := 0) F sc_Rule_eq (fun cdv Ar outer s H E hr => ?_) (fun _ _ _ _ _ h => h)
  exact (ds_cons (ds_ret (de_and (de_ca (cd_isi rfl T.cls) (pe_callB cr_isiA rfl T.b_isinstance (by decide +kernel) (da_cons (do_b (pv 1)) (da_cons (do_e (de_c (pe_gl rfl T.k_Rule) (fun _ => .top _))) da_nil)))) (de_one (de_cmpR (od_eq rfl) (op_eqD (u64 hr)) (do_e (de_fld rfl T.d_images (de_var (pv 0)))) (do_e (de_fld rfl T.d_images (de_var (pv 1)))) (nomark _)))))
    ds_nil)
theorem sc__law_right : FnScope ["pen", "images", "order", "rule", "names", "well", "row", "other", "odd", "plain", "faults", "letter"] ["pen"] (defScope s__law_right) := ⟨rfl, rfl, rfl, by decide +kernel, rfl, by decide +kernel, by decide +kernel⟩
def g__law_right_1 : GS := (sSeq (sRet (eBin dEq (oB 10) (oE (eBin dAdd (oE (eBin dMul (oE (eLst (aCons (oE (eTup (aCons (oE (eC (.str "rule"))) (aCons (oE (eC (.str "rule"))) aNil)))) aNil))) (oE (eC (.int 2))))) (oE (eBin dMul (oE (eLst (aCons (oE (eTup (aCons (oE (eC (.str "unlike"))) (aCons (oE (eC (.str "rule"))) aNil)))) aNil))) (oE (eC (.int 2)))))))))
  sNil)
def g__law_right_2 : GS := (sSeq (sSet 10 (eLst (aCons (oE (eCallN 2 df__law_one (aCons (oE (eC (.top "naming"))) (aCons (oE (eVar 8)) aNil)))) (aCons (oE (eCallN 2 df__law_one (aCons (oE (eC (.top "told_well"))) (aCons (oE (eVar 8)) aNil)))) (aCons (oE (eCallN 2 df__law_one (aCons (oE (eC (.top "naming"))) (aCons (oE (eVar 9)) aNil)))) (aCons (oE (eCallN 2 df__law_one (aCons (oE (eC (.top "told_well"))) (aCons (oE (eVar 9)) aNil)))) aNil))))))
  g__law_right_1)
def g__law_right_3 : GS := (sSeq (sPar2 8 9 (eCallN 1 df__law_bad_rule (aCons (oB 0) aNil)) (eMake 1 df_Rule (aCons (oE (eTup (aCons (oE (eTup (aCons (oE (eC (.int 0))) (aCons (oE (eC (.int 1))) aNil)))) (aCons (oE (eTup (aCons (oE (eC (.int 1))) aNil))) aNil)))) aNil)))
  g__law_right_2)
def g__law_right_4 : GS := (sSeq (sIf (gOr (gV (eBin dNe (oE (eCa nTup (aCons (oE (eLc (iE (eVar 6)) (gNm 11) tYesD (eBin dIx (oB 4) (oB 11)) [11])) aNil))) (oB 7))) (gOr (gV (eOwn true "Rule" df_Rule_eq (oE (eCallN 1 df_told_well (aCons (oE (eVar 5)) aNil))) (oB 5))) (gV (eBin dNe (oE (eCallN 1 df_naming (aCons (oE (eVar 5)) aNil))) (oE (eTRg (iR1 (aCons (oE (eCa nLen (aCons (oB 1) aNil))) aNil)))))))) (sSeq (sRet (eC (.bl false)))
  sNil) sNil)
  g__law_right_3)
def g__law_right_5 : GS := (sSeq (sPar2 6 7 (eCallN 2 df__law_row_start (aCons (oE (eVar 1)) (aCons (oE (eC (.int 60))) aNil))) (eCallN 2 df__law_row_start (aCons (oE (eFld ["Rule"] "images" (eVar 5))) (aCons (oE (eC (.int 60))) aNil))))
  g__law_right_4)
def g__law_right_6 : GS := (sSeq (sIf (gOr (gNot (gTr (eCallN 2 df__law_is (aCons (oE (eCallN 1 df_naming (aCons (oE (eVar 3)) aNil))) (aCons (oE (eVar 4)) aNil))))) (gOr (gNot (gTr (eCa (nIsi (["Rule"] : List Str)) (aCons (oB 5) (aCons (oE (eC (.top "Rule"))) aNil))))) (gNot (gTr (eCallN 2 df__law_is (aCons (oE (eFld ["Rule"] "images" (eVar 5))) (aCons (oE (eCallN 2 df__law_renamed (aCons (oE (eVar 1)) (aCons (oE (eVar 4)) aNil)))) aNil))))))) (sSeq (sRet (eC (.bl false)))
  sNil) sNil)
  g__law_right_5)
def g__law_right_7 : GS := (sSeq (sSet 5 (eCallN 1 df_told_well (aCons (oE (eVar 3)) aNil)))
  g__law_right_6)
def g__law_right_8 : GS := (sSeq (sSet 4 (eCallN 1 df__law_names (aCons (oE (eVar 1)) aNil)))
  g__law_right_7)
def g__law_right_9 : GS := (sSeq (sSet 3 (eMake 1 df_Rule (aCons (oE (eVar 1)) aNil)))
  g__law_right_8)
def g__law_right_10 : GS := (sSeq (sSet 1 (eCallN 2 df__law_renamed (aCons (oE (eVar 1)) (aCons (oE (eVar 2)) aNil))))
  g__law_right_9)
def g__law_right_11 : GS := (sSeq (sSet 2 (eBin dAdd (oE (eLst (aCons (oE (eC (.int 0))) aNil))) (oE (eCallN 2 df__law_shuffled (aCons (oB 0) (aCons (oE (eLRg (iR2 (aCons (oE (eC (.int 1))) (aCons (oE (eCa nLen (aCons (oB 1) aNil))) aNil))))) aNil))))))
  g__law_right_10)
abbrev g__law_right : GS := (sSeq (sSet 1 (eCallN 2 df__law_images (aCons (oB 0) (aCons (oE (eC (.int 5))) aNil))))
  g__law_right_11)
def df__law_right : DF := dfOf 11 g__law_right
theorem ok__law_right {P : Program} {w : World} {base : Heap} {A : Am} (T : Txt A) (Bs : Bas A base) {fd : FuncData} (F : Fun A.K "_law_right" "_law_right" s__law_right (A.ad "_law_right") fd) : FnOk P w A.K A.mg base (L2.CX P w) 14 (A.ad "_law_right") fd ["pen"] (spD A 1 df__law_right) := by
  obtain ⟨fd__law_one, F__law_one, B__law_one⟩ := T.f__law_one.fn
  have G__law_one := ok__law_one (P := P) (w := w) (base := base) T Bs F__law_one
  obtain ⟨fd_told_well, F_told_well, B_told_well⟩ := T.f_told_well.fn
  have G_told_well := ok_told_well (P := P) (w := w) (base := base) T F_told_well
  obtain ⟨fd_naming, F_naming, B_naming⟩ := T.f_naming.fn
  have G_naming := ok_naming (P := P) (w := w) (base := base) T F_naming
  obtain ⟨fd__law_bad_rule, F__law_bad_rule, B__law_bad_rule⟩ := T.f__law_bad_rule.fn
  have G__law_bad_rule := ok__law_bad_rule (P := P) (w := w) (base := base) T F__law_bad_rule
  obtain ⟨fd__law_row_start, F__law_row_start, B__law_row_start⟩ := T.f__law_row_start.fn
  have G__law_row_start := ok__law_row_start (P := P) (w := w) (base := base) T F__law_row_start
  obtain ⟨fd__law_is, F__law_is, B__law_is⟩ := T.f__law_is.fn
  have G__law_is := ok__law_is (P := P) (w := w) (base := base) T F__law_is
  obtain ⟨fd__law_renamed, F__law_renamed, B__law_renamed⟩ := T.f__law_renamed.fn
  have G__law_renamed := ok__law_renamed (P := P) (w := w) (base := base) T F__law_renamed
  obtain ⟨fd__law_names, F__law_names, B__law_names⟩ := T.f__law_names.fn
  have G__law_names := ok__law_names (P := P) (w := w) (base := base) T F__law_names
  obtain ⟨fd__law_shuffled, F__law_shuffled, B__law_shuffled⟩ := T.f__law_shuffled.fn
  have G__law_shuffled := ok__law_shuffled (P := P) (w := w) (base := base) T F__law_shuffled
  obtain ⟨fd__law_images, F__law_images, B__law_images⟩ := T.f__law_images.fn
  have G__law_images := ok__law_images (P := P) (w := w) (base := base) T F__law_images
  obtain ⟨fi_Rule, fd_Rule, M_Rule, F_Rule, BI_Rule⟩ := T.r_Rule.fn
  have GI_Rule := ok_Rule_init (P := P) (w := w) (base := base) T F_Rule
  obtain ⟨fe_Rule, fde_Rule, QE_Rule, FE_Rule, BE_Rule⟩ := T.q_Rule.fn
  have GE_Rule := ok_Rule_eq (P := P) (w := w) (base := base) T FE_Rule
  refine fnD (k := 13) F sc__law_right (fun cdv Ar outer s H E hr => ?_) (fun _ _ _ _ _ h => h)
  exact (ds_cons (ds_set (i := 1) sc__law_right.nd rfl (by first | exact .inl rfl | exact .inr rfl) (de_call G__law_images (hr.mono (by decide)) rfl T.f__law_images.mg T.f__law_images.kp B__law_images (passE (takes_of rfl rfl rfl rfl)) (da_cons (do_b (pv 0)) (da_cons (do_e (de_c pe_int (fun _ => .int _))) da_nil))))
    (ds_cons (ds_set (i := 2) sc__law_right.nd rfl (by first | exact .inl rfl | exact .inr rfl) (de_bin (od_add rfl) (pe_op op_add4 (do_e (de_lst (pe_lst (da_cons (do_e (de_c pe_int (fun _ => .int _))) da_nil)))) (do_e (de_call G__law_shuffled (hr.mono (by decide)) rfl T.f__law_shuffled.mg T.f__law_shuffled.kp B__law_shuffled (passE (takes_of rfl rfl rfl rfl)) (da_cons (do_b (pv 0)) (da_cons (do_e (de_lrg2 rfl rfl T.b_list rfl T.b_range (do_e (de_c pe_int (fun _ => .int _))) (do_e (de_ca (cd_len rfl) (pe_callB cr_lenA rfl T.b_len (by decide +kernel) (da_cons (do_b (pv 1)) da_nil)))))) da_nil)))))))
    (ds_cons (ds_set (i := 1) sc__law_right.nd rfl (by first | exact .inl rfl | exact .inr rfl) (de_call G__law_renamed (hr.mono (by decide)) rfl T.f__law_renamed.mg T.f__law_renamed.kp B__law_renamed (passE (takes_of rfl rfl rfl rfl)) (da_cons (do_e (de_var (pv 1))) (da_cons (do_e (de_var (pv 2))) da_nil))))
    (ds_cons (ds_set (i := 3) sc__law_right.nd rfl (by first | exact .inl rfl | exact .inr rfl) (de_make rfl rfl M_Rule GI_Rule (hr.mono (by decide)) rfl T.r_Rule.mg BI_Rule (passE (takes_of rfl rfl rfl rfl)) (da_cons (do_e (de_var (pv 1))) da_nil)))
    (ds_cons (ds_set (i := 4) sc__law_right.nd rfl (by first | exact .inl rfl | exact .inr rfl) (de_call G__law_names (hr.mono (by decide)) rfl T.f__law_names.mg T.f__law_names.kp B__law_names (passE (takes_of rfl rfl rfl rfl)) (da_cons (do_e (de_var (pv 1))) da_nil)))
    (ds_cons (ds_set (i := 5) sc__law_right.nd rfl (by first | exact .inl rfl | exact .inr rfl) (de_call G_told_well (hr.mono (by decide)) rfl T.f_told_well.mg T.f_told_well.kp B_told_well (passE (takes_of rfl rfl rfl rfl)) (da_cons (do_e (de_var (pv 3))) da_nil)))
    (ds_cons (ds_if (PW.pt (dw_or (dt_not (dt_true rfl (de_call G__law_is (hr.mono (by decide)) rfl T.f__law_is.mg T.f__law_is.kp B__law_is (passE (takes_of rfl rfl rfl rfl)) (da_cons (do_e (de_call G_naming (hr.mono (by decide)) rfl T.f_naming.mg T.f_naming.kp B_naming (passE (takes_of rfl rfl rfl rfl)) (da_cons (do_e (de_var (pv 3))) da_nil))) (da_cons (do_e (de_var (pv 4))) da_nil))) (fun _ => rfl))) (dw_or (dt_not (dt_true rfl (de_ca (cd_isi rfl T.cls) (pe_callB cr_isiA rfl T.b_isinstance (by decide +kernel) (da_cons (do_b (pv 5)) (da_cons (do_e (de_c (pe_gl rfl T.k_Rule) (fun _ => .top _))) da_nil)))) (fun _ => rfl))) (dw_or1 (dt_not (dt_true rfl (de_call G__law_is (hr.mono (by decide)) rfl T.f__law_is.mg T.f__law_is.kp B__law_is (passE (takes_of rfl rfl rfl rfl)) (da_cons (do_e (de_fld rfl T.d_images (de_var (pv 5)))) (da_cons (do_e (de_call G__law_renamed (hr.mono (by decide)) rfl T.f__law_renamed.mg T.f__law_renamed.kp B__law_renamed (passE (takes_of rfl rfl rfl rfl)) (da_cons (do_e (de_var (pv 1))) (da_cons (do_e (de_var (pv 4))) da_nil)))) da_nil))) (fun _ => rfl))))))) (ds_cons (ds_ret (de_c pe_bl (fun _ => .bl _)))
    ds_nil) ds_nil)
    (ds_cons (ds_par2 (i := 6) (j := 7) rfl sc__law_right.nd rfl rfl (by decide) rfl rfl (de_call G__law_row_start (hr.mono (by decide)) rfl T.f__law_row_start.mg T.f__law_row_start.kp B__law_row_start (passE (takes_of rfl rfl rfl rfl)) (da_cons (do_e (de_var (pv 1))) (da_cons (do_e (de_c pe_int (fun _ => .int _))) da_nil))) (de_call G__law_row_start (hr.mono (by decide)) rfl T.f__law_row_start.mg T.f__law_row_start.kp B__law_row_start (passE (takes_of rfl rfl rfl rfl)) (da_cons (do_e (de_fld rfl T.d_images (de_var (pv 5)))) (da_cons (do_e (de_c pe_int (fun _ => .int _))) da_nil))) rfl rfl rfl)
    (ds_cons (ds_if (PW.pt (dw_or (dt_cmpR (od_ne rfl) (op_neD (u64 hr)) (do_e (de_ca (cd_tup rfl) (pe_callTy call_tuple_of rfl T.b_tuple (by decide +kernel) (da_cons (do_e (de_lc (own := [("letter", 11)]) rfl sc__law_right.nd (di_e rfl (de_var (pv 6))) (blkOk_by (N := ["pen", "images", "order", "rule", "names", "well", "row", "other", "odd", "plain", "faults", "letter"]) (sc := defScope s__law_right) (own := [("letter", 11)]) (by decide +kernel)) (fun _ _ _ _ _ => (dg_name (by decide) sc__law_right.nd rfl (by first | exact .inl rfl | exact .inr rfl))) (fun _ _ _ _ _ => dts_nil) (fun _ _ _ _ _ => (de_bin (od_ix rfl) (pe_ix ix_seq (do_b (pv 4)) (do_b (pv 11)) (fun _ _ => rfl)))))) da_nil)))) (do_b (pv 7)) (nomark _)) (dw_or (dt_neC (C := "Rule") rfl QE_Rule GE_Rule (hr.mono (by decide)) BE_Rule (passE (takes_of rfl rfl rfl rfl)) (do_e (de_call G_told_well (hr.mono (by decide)) rfl T.f_told_well.mg T.f_told_well.kp B_told_well (passE (takes_of rfl rfl rfl rfl)) (da_cons (do_e (de_var (pv 5))) da_nil))) (do_b (pv 5)) (nomark _)) (dw_or1 (dt_cmpR (od_ne rfl) (op_neD (u64 hr)) (do_e (de_call G_naming (hr.mono (by decide)) rfl T.f_naming.mg T.f_naming.kp B_naming (passE (takes_of rfl rfl rfl rfl)) (da_cons (do_e (de_var (pv 5))) da_nil))) (do_e (de_trg1 rfl rfl T.b_tuple rfl T.b_range (do_e (de_ca (cd_len rfl) (pe_callB cr_lenA rfl T.b_len (by decide +kernel) (da_cons (do_b (pv 1)) da_nil)))))) (nomark _)))))) (ds_cons (ds_ret (de_c pe_bl (fun _ => .bl _)))
    ds_nil) ds_nil)
    (ds_cons (ds_par2 (i := 8) (j := 9) rfl sc__law_right.nd rfl rfl (by decide) rfl rfl (de_call G__law_bad_rule (hr.mono (by decide)) rfl T.f__law_bad_rule.mg T.f__law_bad_rule.kp B__law_bad_rule (passE (takes_of rfl rfl rfl rfl)) (da_cons (do_b (pv 0)) da_nil)) (de_make rfl rfl M_Rule GI_Rule (hr.mono (by decide)) rfl T.r_Rule.mg BI_Rule (passE (takes_of rfl rfl rfl rfl)) (da_cons (do_e (de_tup (pe_tup (da_cons (do_e (de_tup (pe_tup (da_cons (do_e (de_c pe_int (fun _ => .int _))) (da_cons (do_e (de_c pe_int (fun _ => .int _))) da_nil))))) (da_cons (do_e (de_tup (pe_tup (da_cons (do_e (de_c pe_int (fun _ => .int _))) da_nil)))) da_nil))))) da_nil)) rfl rfl rfl)
    (ds_cons (ds_set (i := 10) sc__law_right.nd rfl (by first | exact .inl rfl | exact .inr rfl) (de_lst (pe_lst (da_cons (do_e (de_call G__law_one (hr.mono (by decide)) rfl T.f__law_one.mg T.f__law_one.kp B__law_one (passE (takes_of rfl rfl rfl rfl)) (da_cons (do_e (de_c (pe_gl rfl T.f_naming.gl) (fun _ => .top _))) (da_cons (do_e (de_var (pv 8))) da_nil)))) (da_cons (do_e (de_call G__law_one (hr.mono (by decide)) rfl T.f__law_one.mg T.f__law_one.kp B__law_one (passE (takes_of rfl rfl rfl rfl)) (da_cons (do_e (de_c (pe_gl rfl T.f_told_well.gl) (fun _ => .top _))) (da_cons (do_e (de_var (pv 8))) da_nil)))) (da_cons (do_e (de_call G__law_one (hr.mono (by decide)) rfl T.f__law_one.mg T.f__law_one.kp B__law_one (passE (takes_of rfl rfl rfl rfl)) (da_cons (do_e (de_c (pe_gl rfl T.f_naming.gl) (fun _ => .top _))) (da_cons (do_e (de_var (pv 9))) da_nil)))) (da_cons (do_e (de_call G__law_one (hr.mono (by decide)) rfl T.f__law_one.mg T.f__law_one.kp B__law_one (passE (takes_of rfl rfl rfl rfl)) (da_cons (do_e (de_c (pe_gl rfl T.f_told_well.gl) (fun _ => .top _))) (da_cons (do_e (de_var (pv 9))) da_nil)))) da_nil)))))))
    (ds_cons (ds_ret (de_cmpR (od_eq rfl) (op_eqD (u64 hr)) (do_b (pv 10)) (do_e (de_bin (od_add rfl) (pe_op op_add4 (do_e (de_bin (od_mul rfl) (pe_op op_mul3 (do_e (de_lst (pe_lst (da_cons (do_e (de_tup (pe_tup (da_cons (do_e (de_c pe_str (fun _ => .str _))) (da_cons (do_e (de_c pe_str (fun _ => .str _))) da_nil))))) da_nil)))) (do_e (de_c pe_int (fun _ => .int _)))))) (do_e (de_bin (od_mul rfl) (pe_op op_mul3 (do_e (de_lst (pe_lst (da_cons (do_e (de_tup (pe_tup (da_cons (do_e (de_c pe_str (fun _ => .str _))) (da_cons (do_e (de_c pe_str (fun _ => .str _))) da_nil))))) da_nil)))) (do_e (de_c pe_int (fun _ => .int _))))))))) (nomark _)))
    ds_nil))))))))))))
theorem sc__law_pen : FnScope ["script", "fold", "cell"] ["script"] (defScope s__law_pen) := ⟨rfl, rfl, rfl, by decide +kernel, rfl, by decide +kernel, by decide +kernel⟩
def g__law_pen_1 : GS := (sSeq (sPen 1)
  sNil)
def g__law_pen_2 : GS := (sSeq (sSet 1 (eBin dMod (oE (eCa nInt (aCons (oE (eBin dAdd (oE (eBin dMul (oB 1) (oE (eC (.int 47))))) (oB 2))) aNil))) (oE (eC (.int 1000000007)))))
  sNil)
def g__law_pen_3 : GS := (sSeq (sFor (iE (eVar 0)) (gNm 2) g__law_pen_2)
  g__law_pen_1)
abbrev g__law_pen : GS := (sSeq (sSet 1 (eC (.int 0)))
  g__law_pen_3)
def df__law_pen : DF := dfOf 2 g__law_pen
theorem ok__law_pen {P : Program} {w : World} {base : Heap} {A : Am} (T : Txt A) {fd : FuncData} (F : Fun A.K "_law_pen" "_law_pen" s__law_pen (A.ad "_law_pen") fd) : FnOk P w A.K A.mg base (L2.CX P w) 1 (A.ad "_law_pen") fd ["script"] (spD A 1 df__law_pen) := by
  refine fnD (k := 0) F sc__law_pen (fun cdv Ar outer s H E hr => ?_) (fun _ _ _ _ _ h => h)
  exact (ds_cons (ds_set (i := 1) sc__law_pen.nd rfl (by first | exact .inl rfl | exact .inr rfl) (de_c pe_int (fun _ => .int _)))
    (ds_cons (ds_for (vs := [2]) (passes_of rfl) rfl (di_e rfl (de_var (pv 0))) (dg_name (by decide) sc__law_pen.nd rfl (by first | exact .inl rfl | exact .inr rfl)) (ds_cons (ds_set (i := 1) sc__law_pen.nd rfl (by first | exact .inl rfl | exact .inr rfl) (de_bin od_mod (pe_op op_mod (do_e (de_ca cd_int (pe_callTy call_int1 rfl T.b_int (by decide +kernel) (da_cons (do_e (de_bin (od_add rfl) (pe_op op_add4 (do_e (de_bin (od_mul rfl) (pe_op op_mul3 (do_b (pv 1)) (do_e (de_c pe_int (fun _ => .int _)))))) (do_b (pv 2))))) da_nil)))) (do_e (de_c pe_int (fun _ => .int _))))))
    ds_nil))
    (ds_cons (ds_pen (j := 1) rfl (pps_cons pe_str (pe_callTy call_list_of rfl T.b_list (by decide +kernel) (pa_cons (pv 0) pa_nil)) (pps_cons pe_str pe_int (pps_cons pe_str pe_int (pps_cons pe_str pe_int (pps_cons pe_str (pv 1) pps_nil))))) rfl rfl (by simp) (by decide))
    ds_nil)))
theorem sc_law : FnScope ["script", "pen", "lap"] ["script"] (defScope s_law) := ⟨rfl, rfl, rfl, by decide +kernel, rfl, by decide +kernel, by decide +kernel⟩
def g_law_1 : GS := (sSeq (sRet (eC (.bl true)))
  sNil)
def g_law_2 : GS := (sSeq (sIf (gNot (gTr (eCallN 1 df__law_right (aCons (oB 1) aNil)))) (sSeq (sRet (eC (.bl false)))
  sNil) sNil)
  sNil)
def g_law_3 : GS := (sSeq (sFor (iR1 (aCons (oE (eC (.int 3))) aNil)) (gNm 2) g_law_2)
  g_law_1)
abbrev g_law : GS := (sSeq (sSet 1 (eCallN 1 df__law_pen (aCons (oE (eVar 0)) aNil)))
  g_law_3)
def df_law : DF := dfOf 2 g_law
theorem ok_law {P : Program} {w : World} {base : Heap} {A : Am} (T : Txt A) (Bs : Bas A base) {fd : FuncData} (F : Fun A.K "law" "law" s_law (A.ad "law") fd) : FnOk P w A.K A.mg base (L2.CX P w) 15 (A.ad "law") fd ["script"] (spD A 1 df_law) := by
  obtain ⟨fd__law_right, F__law_right, B__law_right⟩ := T.f__law_right.fn
  have G__law_right := ok__law_right (P := P) (w := w) (base := base) T Bs F__law_right
  obtain ⟨fd__law_pen, F__law_pen, B__law_pen⟩ := T.f__law_pen.fn
  have G__law_pen := ok__law_pen (P := P) (w := w) (base := base) T F__law_pen
  refine fnD (k := 14) F sc_law (fun cdv Ar outer s H E hr => ?_) (fun _ _ _ _ _ h => h)
  exact (ds_cons (ds_set (i := 1) sc_law.nd rfl (by first | exact .inl rfl | exact .inr rfl) (de_call G__law_pen (hr.mono (by decide)) rfl T.f__law_pen.mg T.f__law_pen.kp B__law_pen (passE (takes_of rfl rfl rfl rfl)) (da_cons (do_e (de_var (pv 0))) da_nil)))
    (ds_cons (ds_for (vs := [2]) (passes_of rfl) rfl (di_r1 rfl T.b_range (da_cons (do_e (de_c pe_int (fun _ => .int _))) da_nil)) (dg_name (by decide) sc_law.nd rfl (by first | exact .inl rfl | exact .inr rfl)) (ds_cons (ds_if (dt_not (dt_true rfl (de_call G__law_right (hr.mono (by decide)) rfl T.f__law_right.mg T.f__law_right.kp B__law_right (passE (takes_of rfl rfl rfl rfl)) (da_cons (do_b (pv 1)) da_nil)) (fun _ => rfl))) (ds_cons (ds_ret (de_c pe_bl (fun _ => .bl _)))
    ds_nil) ds_nil)
    ds_nil))
    (ds_cons (ds_ret (de_c pe_bl (fun _ => .bl _)))
    ds_nil)))
theorem bb__law_more_kinds : BindsBy "_law_more_kinds" "_law_more_kinds" s__law_more_kinds ["e"] := fun _ _ _ _ _ _ us hl => match us, hl with | [_], _ => rfl
theorem bb__law_kinds : BindsBy "_law_kinds" "_law_kinds" s__law_kinds ["e"] := fun _ _ _ _ _ _ us hl => match us, hl with | [_], _ => rfl
theorem bb__law_fault : BindsBy "_law_fault" "_law_fault" s__law_fault ["call"] := fun _ _ _ _ _ _ us hl => match us, hl with | [_], _ => rfl
theorem bb_renamed_by : BindsBy "renamed_by" "renamed_by" s_renamed_by ["images", "names"] := fun _ _ _ _ _ _ us hl => match us, hl with | [_, _], _ => rfl
theorem bb_image_by : BindsBy "image_by" "image_by" s_image_by ["images", "word"] := fun _ _ _ _ _ _ us hl => match us, hl with | [_, _], _ => rfl
theorem bb_naming_by : BindsBy "naming_by" "naming_by" s_naming_by ["images"] := fun _ _ _ _ _ _ us hl => match us, hl with | [_], _ => rfl
theorem bb_well_by : BindsBy "well_by" "well_by" s_well_by ["images"] := fun _ _ _ _ _ _ us hl => match us, hl with | [_], _ => rfl
theorem bb_is_primitive_by : BindsBy "is_primitive_by" "is_primitive_by" s_is_primitive_by ["images"] := fun _ _ _ _ _ _ us hl => match us, hl with | [_], _ => rfl
theorem bb_need_any : BindsBy "need_any" "need_any" s_need_any ["rule", "what"] := fun _ _ _ _ _ _ us hl => match us, hl with | [_, _], _ => rfl
theorem bb_need_rule : BindsBy "need_rule" "need_rule" s_need_rule ["rule", "what"] := fun _ _ _ _ _ _ us hl => match us, hl with | [_, _], _ => rfl
theorem bb_is_integer : BindsBy "is_integer" "is_integer" s_is_integer ["value"] := fun _ _ _ _ _ _ us hl => match us, hl with | [_], _ => rfl
theorem bb_is_index : BindsBy "is_index" "is_index" s_is_index ["value", "many"] := fun _ _ _ _ _ _ us hl => match us, hl with | [_, _], _ => rfl
theorem bb_is_list : BindsBy "is_list" "is_list" s_is_list ["value"] := fun _ _ _ _ _ _ us hl => match us, hl with | [_], _ => rfl
theorem bb_is_indexes : BindsBy "is_indexes" "is_indexes" s_is_indexes ["value", "many"] := fun _ _ _ _ _ _ us hl => match us, hl with | [_, _], _ => rfl
theorem bb_is_word : BindsBy "is_word" "is_word" s_is_word ["value", "many"] := fun _ _ _ _ _ _ us hl => match us, hl with | [_, _], _ => rfl
theorem bb_are_images : BindsBy "are_images" "are_images" s_are_images ["value"] := fun _ _ _ _ _ _ us hl => match us, hl with | [_], _ => rfl
theorem bb_as_tuples : BindsBy "as_tuples" "as_tuples" s_as_tuples ["value"] := fun _ _ _ _ _ _ us hl => match us, hl with | [_], _ => rfl
theorem bb_told_well : BindsBy "told_well" "told_well" s_told_well ["rule"] := fun _ _ _ _ _ _ us hl => match us, hl with | [_], _ => rfl
theorem bb_naming : BindsBy "naming" "naming" s_naming ["rule"] := fun _ _ _ _ _ _ us hl => match us, hl with | [_], _ => rfl
theorem bb__law_one : BindsBy "_law_one" "_law_one" s__law_one ["call", "rule"] := fun _ _ _ _ _ _ us hl => match us, hl with | [_, _], _ => rfl
theorem bb__law_draw : BindsBy "_law_draw" "_law_draw" s__law_draw ["pen", "many"] := fun _ _ _ _ _ _ us hl => match us, hl with | [_, _], _ => rfl
theorem bb__law_pick : BindsBy "_law_pick" "_law_pick" s__law_pick ["pen", "some"] := fun _ _ _ _ _ _ us hl => match us, hl with | [_, _], _ => rfl
theorem bb__law_bad_rule : BindsBy "_law_bad_rule" "_law_bad_rule" s__law_bad_rule ["pen"] := fun _ _ _ _ _ _ us hl => match us, hl with | [_], _ => rfl
theorem bb__law_image : BindsBy "_law_image" "_law_image" s__law_image ["images", "word"] := fun _ _ _ _ _ _ us hl => match us, hl with | [_, _], _ => rfl
theorem bb__law_row_start : BindsBy "_law_row_start" "_law_row_start" s__law_row_start ["images", "long"] := fun _ _ _ _ _ _ us hl => match us, hl with | [_, _], _ => rfl
theorem bb__law_is : BindsBy "_law_is" "_law_is" s__law_is ["told", "due"] := fun _ _ _ _ _ _ us hl => match us, hl with | [_, _], _ => rfl
theorem bb__law_renamed : BindsBy "_law_renamed" "_law_renamed" s__law_renamed ["images", "names"] := fun _ _ _ _ _ _ us hl => match us, hl with | [_, _], _ => rfl
theorem bb__law_names : BindsBy "_law_names" "_law_names" s__law_names ["images"] := fun _ _ _ _ _ _ us hl => match us, hl with | [_], _ => rfl
theorem bb__law_shuffled : BindsBy "_law_shuffled" "_law_shuffled" s__law_shuffled ["pen", "some"] := fun _ _ _ _ _ _ us hl => match us, hl with | [_, _], _ => rfl
theorem bb__law_known_images : BindsBy "_law_known_images" "_law_known_images" s__law_known_images ["pen"] := fun _ _ _ _ _ _ us hl => match us, hl with | [_], _ => rfl
theorem bb__law_led_lot : BindsBy "_law_led_lot" "_law_led_lot" s__law_led_lot ["images", "lot"] := fun _ _ _ _ _ _ us hl => match us, hl with | [_, _], _ => rfl
theorem bb__law_is_primitive : BindsBy "_law_is_primitive" "_law_is_primitive" s__law_is_primitive ["images"] := fun _ _ _ _ _ _ us hl => match us, hl with | [_], _ => rfl
theorem bb__law_any_images : BindsBy "_law_any_images" "_law_any_images" s__law_any_images ["pen", "most"] := fun _ _ _ _ _ _ us hl => match us, hl with | [_, _], _ => rfl
theorem bb__law_images : BindsBy "_law_images" "_law_images" s__law_images ["pen", "most"] := fun _ _ _ _ _ _ us hl => match us, hl with | [_, _], _ => rfl
theorem bb_Rule_eq : BindsBy "__eq__" "Rule.__eq__" s_Rule_eq ["self", "other"] := fun _ _ _ _ _ _ us hl => match us, hl with | [_, _], _ => rfl
theorem bb__law_right : BindsBy "_law_right" "_law_right" s__law_right ["pen"] := fun _ _ _ _ _ _ us hl => match us, hl with | [_], _ => rfl
theorem bb__law_pen : BindsBy "_law_pen" "_law_pen" s__law_pen ["script"] := fun _ _ _ _ _ _ us hl => match us, hl with | [_], _ => rfl
theorem bb_law : BindsBy "law" "law" s_law ["script"] := fun _ _ _ _ _ _ us hl => match us, hl with | [_], _ => rfl
theorem bb_i_Rule : BindsBy "__init__" "Rule.__init__" s_Rule_init ["self", "images"] := fun _ _ _ _ _ _ us hl => match us, hl with | [_, _], _ => rfl
theorem bb_i_BadRule : BindsBy "__init__" "BadRule.__init__" s_BadRule_init ["self", "what"] := fun _ _ _ _ _ _ us hl => match us, hl with | [_, _], _ => rfl
theorem bb_i_Unlike : BindsBy "__init__" "Unlike.__init__" s_Unlike_init ["self", "what"] := fun _ _ _ _ _ _ us hl => match us, hl with | [_, _], _ => rfl
theorem bsT_ok {C : Str} : ∀ C2 b, bsT C C2 = some b → C2 ∈ CLK ∧ b = (C == C2) := fun C2 b h => by
  unfold bsT at h
  split at h
  · rename_i hc
    cases h
    exact ⟨by simpa using hc, rfl⟩
  · cases h
structure Facts (K : PySem.W.Frag) (ts : List Addr) : Prop where
  n__law_more_kinds : nmB K "_law_more_kinds" = true
  l__law_more_kinds : K.lookup (adK K "_law_more_kinds") = obF K (adK K "_law_more_kinds") "_law_more_kinds" "_law_more_kinds" s__law_more_kinds
  b__law_more_kinds : fnB K (adK K "_law_more_kinds") "_law_more_kinds" = true
  n__law_kinds : nmB K "_law_kinds" = true
  l__law_kinds : K.lookup (adK K "_law_kinds") = obF K (adK K "_law_kinds") "_law_kinds" "_law_kinds" s__law_kinds
  b__law_kinds : fnB K (adK K "_law_kinds") "_law_kinds" = true
  n__law_fault : nmB K "_law_fault" = true
  l__law_fault : K.lookup (adK K "_law_fault") = obF K (adK K "_law_fault") "_law_fault" "_law_fault" s__law_fault
  b__law_fault : fnB K (adK K "_law_fault") "_law_fault" = true
  n_renamed_by : nmB K "renamed_by" = true
  l_renamed_by : K.lookup (adK K "renamed_by") = obF K (adK K "renamed_by") "renamed_by" "renamed_by" s_renamed_by
  b_renamed_by : fnB K (adK K "renamed_by") "renamed_by" = true
  n_image_by : nmB K "image_by" = true
  l_image_by : K.lookup (adK K "image_by") = obF K (adK K "image_by") "image_by" "image_by" s_image_by
  b_image_by : fnB K (adK K "image_by") "image_by" = true
  n_naming_by : nmB K "naming_by" = true
  l_naming_by : K.lookup (adK K "naming_by") = obF K (adK K "naming_by") "naming_by" "naming_by" s_naming_by
  b_naming_by : fnB K (adK K "naming_by") "naming_by" = true
  n_well_by : nmB K "well_by" = true
  l_well_by : K.lookup (adK K "well_by") = obF K (adK K "well_by") "well_by" "well_by" s_well_by
  b_well_by : fnB K (adK K "well_by") "well_by" = true
  n_is_primitive_by : nmB K "is_primitive_by" = true
  l_is_primitive_by : K.lookup (adK K "is_primitive_by") = obF K (adK K "is_primitive_by") "is_primitive_by" "is_primitive_by" s_is_primitive_by
  b_is_primitive_by : fnB K (adK K "is_primitive_by") "is_primitive_by" = true
  n_need_any : nmB K "need_any" = true
  l_need_any : K.lookup (adK K "need_any") = obF K (adK K "need_any") "need_any" "need_any" s_need_any
  b_need_any : fnB K (adK K "need_any") "need_any" = true
  n_need_rule : nmB K "need_rule" = true
  l_need_rule : K.lookup (adK K "need_rule") = obF K (adK K "need_rule") "need_rule" "need_rule" s_need_rule
  b_need_rule : fnB K (adK K "need_rule") "need_rule" = true
  n_is_integer : nmB K "is_integer" = true
  l_is_integer : K.lookup (adK K "is_integer") = obF K (adK K "is_integer") "is_integer" "is_integer" s_is_integer
  b_is_integer : fnB K (adK K "is_integer") "is_integer" = true
  n_is_index : nmB K "is_index" = true
  l_is_index : K.lookup (adK K "is_index") = obF K (adK K "is_index") "is_index" "is_index" s_is_index
  b_is_index : fnB K (adK K "is_index") "is_index" = true
  n_is_list : nmB K "is_list" = true
  l_is_list : K.lookup (adK K "is_list") = obF K (adK K "is_list") "is_list" "is_list" s_is_list
  b_is_list : fnB K (adK K "is_list") "is_list" = true
  n_is_indexes : nmB K "is_indexes" = true
  l_is_indexes : K.lookup (adK K "is_indexes") = obF K (adK K "is_indexes") "is_indexes" "is_indexes" s_is_indexes
  b_is_indexes : fnB K (adK K "is_indexes") "is_indexes" = true
  n_is_word : nmB K "is_word" = true
  l_is_word : K.lookup (adK K "is_word") = obF K (adK K "is_word") "is_word" "is_word" s_is_word
  b_is_word : fnB K (adK K "is_word") "is_word" = true
  n_are_images : nmB K "are_images" = true
  l_are_images : K.lookup (adK K "are_images") = obF K (adK K "are_images") "are_images" "are_images" s_are_images
  b_are_images : fnB K (adK K "are_images") "are_images" = true
  n_as_tuples : nmB K "as_tuples" = true
  l_as_tuples : K.lookup (adK K "as_tuples") = obF K (adK K "as_tuples") "as_tuples" "as_tuples" s_as_tuples
  b_as_tuples : fnB K (adK K "as_tuples") "as_tuples" = true
  n_told_well : nmB K "told_well" = true
  l_told_well : K.lookup (adK K "told_well") = obF K (adK K "told_well") "told_well" "told_well" s_told_well
  b_told_well : fnB K (adK K "told_well") "told_well" = true
  n_naming : nmB K "naming" = true
  l_naming : K.lookup (adK K "naming") = obF K (adK K "naming") "naming" "naming" s_naming
  b_naming : fnB K (adK K "naming") "naming" = true
  n__law_one : nmB K "_law_one" = true
  l__law_one : K.lookup (adK K "_law_one") = obF K (adK K "_law_one") "_law_one" "_law_one" s__law_one
  b__law_one : fnB K (adK K "_law_one") "_law_one" = true
  n__law_draw : nmB K "_law_draw" = true
  l__law_draw : K.lookup (adK K "_law_draw") = obF K (adK K "_law_draw") "_law_draw" "_law_draw" s__law_draw
  b__law_draw : fnB K (adK K "_law_draw") "_law_draw" = true
  n__law_pick : nmB K "_law_pick" = true
  l__law_pick : K.lookup (adK K "_law_pick") = obF K (adK K "_law_pick") "_law_pick" "_law_pick" s__law_pick
  b__law_pick : fnB K (adK K "_law_pick") "_law_pick" = true
  n__law_bad_rule : nmB K "_law_bad_rule" = true
  l__law_bad_rule : K.lookup (adK K "_law_bad_rule") = obF K (adK K "_law_bad_rule") "_law_bad_rule" "_law_bad_rule" s__law_bad_rule
  b__law_bad_rule : fnB K (adK K "_law_bad_rule") "_law_bad_rule" = true
  n__law_image : nmB K "_law_image" = true
  l__law_image : K.lookup (adK K "_law_image") = obF K (adK K "_law_image") "_law_image" "_law_image" s__law_image
  b__law_image : fnB K (adK K "_law_image") "_law_image" = true
  n__law_row_start : nmB K "_law_row_start" = true
  l__law_row_start : K.lookup (adK K "_law_row_start") = obF K (adK K "_law_row_start") "_law_row_start" "_law_row_start" s__law_row_start
  b__law_row_start : fnB K (adK K "_law_row_start") "_law_row_start" = true
  n__law_is : nmB K "_law_is" = true
  l__law_is : K.lookup (adK K "_law_is") = obF K (adK K "_law_is") "_law_is" "_law_is" s__law_is
  b__law_is : fnB K (adK K "_law_is") "_law_is" = true
  n__law_renamed : nmB K "_law_renamed" = true
  l__law_renamed : K.lookup (adK K "_law_renamed") = obF K (adK K "_law_renamed") "_law_renamed" "_law_renamed" s__law_renamed
  b__law_renamed : fnB K (adK K "_law_renamed") "_law_renamed" = true
  n__law_names : nmB K "_law_names" = true
  l__law_names : K.lookup (adK K "_law_names") = obF K (adK K "_law_names") "_law_names" "_law_names" s__law_names
  b__law_names : fnB K (adK K "_law_names") "_law_names" = true
  n__law_shuffled : nmB K "_law_shuffled" = true
  l__law_shuffled : K.lookup (adK K "_law_shuffled") = obF K (adK K "_law_shuffled") "_law_shuffled" "_law_shuffled" s__law_shuffled
  b__law_shuffled : fnB K (adK K "_law_shuffled") "_law_shuffled" = true
  n__law_known_images : nmB K "_law_known_images" = true
  l__law_known_images : K.lookup (adK K "_law_known_images") = obF K (adK K "_law_known_images") "_law_known_images" "_law_known_images" s__law_known_images
  b__law_known_images : fnB K (adK K "_law_known_images") "_law_known_images" = true
  n__law_led_lot : nmB K "_law_led_lot" = true
  l__law_led_lot : K.lookup (adK K "_law_led_lot") = obF K (adK K "_law_led_lot") "_law_led_lot" "_law_led_lot" s__law_led_lot
  b__law_led_lot : fnB K (adK K "_law_led_lot") "_law_led_lot" = true
  n__law_is_primitive : nmB K "_law_is_primitive" = true
  l__law_is_primitive : K.lookup (adK K "_law_is_primitive") = obF K (adK K "_law_is_primitive") "_law_is_primitive" "_law_is_primitive" s__law_is_primitive
  b__law_is_primitive : fnB K (adK K "_law_is_primitive") "_law_is_primitive" = true
  n__law_any_images : nmB K "_law_any_images" = true
  l__law_any_images : K.lookup (adK K "_law_any_images") = obF K (adK K "_law_any_images") "_law_any_images" "_law_any_images" s__law_any_images
  b__law_any_images : fnB K (adK K "_law_any_images") "_law_any_images" = true
  n__law_images : nmB K "_law_images" = true
  l__law_images : K.lookup (adK K "_law_images") = obF K (adK K "_law_images") "_law_images" "_law_images" s__law_images
  b__law_images : fnB K (adK K "_law_images") "_law_images" = true
  n_Rule : nmB K "Rule" = true
  qc_Rule : K.lookup (adK K "Rule") = obC K (adK K "Rule")
  qn_Rule : K.lookup (clK K (adK K "Rule")).ns = obN K (clK K (adK K "Rule")).ns
  qb_Rule : eqB K (adK K "Rule") = true
  ql_Rule : K.lookup (eqF K (adK K "Rule")) = obF K (eqF K (adK K "Rule")) "__eq__" "Rule.__eq__" s_Rule_eq
  qf_Rule : fnB K (eqF K (adK K "Rule")) "Rule.__eq__" = true
  n__law_right : nmB K "_law_right" = true
  l__law_right : K.lookup (adK K "_law_right") = obF K (adK K "_law_right") "_law_right" "_law_right" s__law_right
  b__law_right : fnB K (adK K "_law_right") "_law_right" = true
  n__law_pen : nmB K "_law_pen" = true
  l__law_pen : K.lookup (adK K "_law_pen") = obF K (adK K "_law_pen") "_law_pen" "_law_pen" s__law_pen
  b__law_pen : fnB K (adK K "_law_pen") "_law_pen" = true
  n_law : nmB K "law" = true
  l_law : K.lookup (adK K "law") = obF K (adK K "law") "law" "law" s_law
  b_law : fnB K (adK K "law") "law" = true
  mk_Rule : mkB K (adK K "Rule") = true
  li_Rule : K.lookup (inK K (adK K "Rule")) = obF K (inK K (adK K "Rule")) "__init__" "Rule.__init__" s_Rule_init
  bi_Rule : fnB K (inK K (adK K "Rule")) "Rule.__init__" = true
  n_BadRule : nmB K "BadRule" = true
  lx_BadRule : K.lookup (adK K "BadRule") = obX K (adK K "BadRule")
  ex_BadRule : exB K (adK K "BadRule") = true
  xi_BadRule : xiB K (adK K "BadRule") = true
  no0_BadRule : noB K (adK K "BadRule") "what" = true
  li_BadRule : K.lookup (inK K (adK K "BadRule")) = obF K (inK K (adK K "BadRule")) "__init__" "BadRule.__init__" s_BadRule_init
  bi_BadRule : fnB K (inK K (adK K "BadRule")) "BadRule.__init__" = true
  n_Unlike : nmB K "Unlike" = true
  lx_Unlike : K.lookup (adK K "Unlike") = obX K (adK K "Unlike")
  ex_Unlike : exB K (adK K "Unlike") = true
  xi_Unlike : xiB K (adK K "Unlike") = true
  no0_Unlike : noB K (adK K "Unlike") "what" = true
  li_Unlike : K.lookup (inK K (adK K "Unlike")) = obF K (inK K (adK K "Unlike")) "__init__" "Unlike.__init__" s_Unlike_init
  bi_Unlike : fnB K (inK K (adK K "Unlike")) "Unlike.__init__" = true
  n_RowError : nmB K "RowError" = true
  xk_BadRule : xkB K "BadRule" FL CLK = true
  xk_Unlike : xkB K "Unlike" FL CLK = true
  z_isinstance : decide (PySem.W.nsIn K mainGlobals "isinstance" = some none) = true
  z_ValueError : decide (PySem.W.nsIn K mainGlobals "ValueError" = some none) = true
  z_len : decide (PySem.W.nsIn K mainGlobals "len" = some none) = true
  z_tuple : decide (PySem.W.nsIn K mainGlobals "tuple" = some none) = true
  z_enumerate : decide (PySem.W.nsIn K mainGlobals "enumerate" = some none) = true
  z_range : decide (PySem.W.nsIn K mainGlobals "range" = some none) = true
  z_all : decide (PySem.W.nsIn K mainGlobals "all" = some none) = true
  z_dict : decide (PySem.W.nsIn K mainGlobals "dict" = some none) = true
  z_bool : decide (PySem.W.nsIn K mainGlobals "bool" = some none) = true
  z_int : decide (PySem.W.nsIn K mainGlobals "int" = some none) = true
  z_list : decide (PySem.W.nsIn K mainGlobals "list" = some none) = true
  z_sum : decide (PySem.W.nsIn K mainGlobals "sum" = some none) = true
  z_str : decide (PySem.W.nsIn K mainGlobals "str" = some none) = true
  z_sorted : decide (PySem.W.nsIn K mainGlobals "sorted" = some none) = true
  z_set : decide (PySem.W.nsIn K mainGlobals "set" = some none) = true
  c_MOST_LONG : ntB K "MOST_LONG" 4000 = true
  c_MOST_ALL : ntB K "MOST_ALL" 24 = true
  c_MOST_IMAGE : ntB K "MOST_IMAGE" 8 = true
  c_MOST_IMAGES : ntB K "MOST_IMAGES" 5 = true
  n_NothingToRedo : nmB K "NothingToRedo" = true
  n_NothingToUndo : nmB K "NothingToUndo" = true
  n_NotKept : nmB K "NotKept" = true
  n_TooMany : nmB K "TooMany" = true
  n_NotThere : nmB K "NotThere" = true
  n_TakenName : nmB K "TakenName" = true
  n_NoName : nmB K "NoName" = true
  n_NoPlace : nmB K "NoPlace" = true
  n_BadText : nmB K "BadText" = true
  n_BadName : nmB K "BadName" = true
  n_BadBook : nmB K "BadBook" = true
  n_BadWord : nmB K "BadWord" = true
  n_BadTable : nmB K "BadTable" = true
  n_BadRow : nmB K "BadRow" = true
  n_BadNumber : nmB K "BadNumber" = true
  fo_images_Rule : noB K (adK K "Rule") "images" = true
  cl_Rule : clsB K (adK K "Rule") = true
  ob_Rule : objB K (adK K "Rule") = true
  ty_Rule : tysB K (adK K "Rule") = true
  cd__law_one : cdB K "_law_one" = true
  ct__law_one : ts.contains (tbK K "_law_one") = true
theorem txt_mk {K : PySem.W.Frag} {mg : Str → Option Value} {T : List (Addr × Str)} {h : Heap} {ts : List Addr} (X : K.In h) (G : h.Ns mainGlobals mg) (W : Facts K ts) : Txt (am K mg T) where
  f__law_more_kinds := fi_mk X G W.n__law_more_kinds W.l__law_more_kinds W.b__law_more_kinds bb__law_more_kinds
  f__law_kinds := fi_mk X G W.n__law_kinds W.l__law_kinds W.b__law_kinds bb__law_kinds
  f__law_fault := fi_mk X G W.n__law_fault W.l__law_fault W.b__law_fault bb__law_fault
  f_renamed_by := fi_mk X G W.n_renamed_by W.l_renamed_by W.b_renamed_by bb_renamed_by
  f_image_by := fi_mk X G W.n_image_by W.l_image_by W.b_image_by bb_image_by
  f_naming_by := fi_mk X G W.n_naming_by W.l_naming_by W.b_naming_by bb_naming_by
  f_well_by := fi_mk X G W.n_well_by W.l_well_by W.b_well_by bb_well_by
  f_is_primitive_by := fi_mk X G W.n_is_primitive_by W.l_is_primitive_by W.b_is_primitive_by bb_is_primitive_by
  f_need_any := fi_mk X G W.n_need_any W.l_need_any W.b_need_any bb_need_any
  f_need_rule := fi_mk X G W.n_need_rule W.l_need_rule W.b_need_rule bb_need_rule
  f_is_integer := fi_mk X G W.n_is_integer W.l_is_integer W.b_is_integer bb_is_integer
  f_is_index := fi_mk X G W.n_is_index W.l_is_index W.b_is_index bb_is_index
  f_is_list := fi_mk X G W.n_is_list W.l_is_list W.b_is_list bb_is_list
  f_is_indexes := fi_mk X G W.n_is_indexes W.l_is_indexes W.b_is_indexes bb_is_indexes
  f_is_word := fi_mk X G W.n_is_word W.l_is_word W.b_is_word bb_is_word
  f_are_images := fi_mk X G W.n_are_images W.l_are_images W.b_are_images bb_are_images
  f_as_tuples := fi_mk X G W.n_as_tuples W.l_as_tuples W.b_as_tuples bb_as_tuples
  f_told_well := fi_mk X G W.n_told_well W.l_told_well W.b_told_well bb_told_well
  f_naming := fi_mk X G W.n_naming W.l_naming W.b_naming bb_naming
  f__law_one := fi_mk X G W.n__law_one W.l__law_one W.b__law_one bb__law_one
  f__law_draw := fi_mk X G W.n__law_draw W.l__law_draw W.b__law_draw bb__law_draw
  f__law_pick := fi_mk X G W.n__law_pick W.l__law_pick W.b__law_pick bb__law_pick
  f__law_bad_rule := fi_mk X G W.n__law_bad_rule W.l__law_bad_rule W.b__law_bad_rule bb__law_bad_rule
  f__law_image := fi_mk X G W.n__law_image W.l__law_image W.b__law_image bb__law_image
  f__law_row_start := fi_mk X G W.n__law_row_start W.l__law_row_start W.b__law_row_start bb__law_row_start
  f__law_is := fi_mk X G W.n__law_is W.l__law_is W.b__law_is bb__law_is
  f__law_renamed := fi_mk X G W.n__law_renamed W.l__law_renamed W.b__law_renamed bb__law_renamed
  f__law_names := fi_mk X G W.n__law_names W.l__law_names W.b__law_names bb__law_names
  f__law_shuffled := fi_mk X G W.n__law_shuffled W.l__law_shuffled W.b__law_shuffled bb__law_shuffled
  f__law_known_images := fi_mk X G W.n__law_known_images W.l__law_known_images W.b__law_known_images bb__law_known_images
  f__law_led_lot := fi_mk X G W.n__law_led_lot W.l__law_led_lot W.b__law_led_lot bb__law_led_lot
  f__law_is_primitive := fi_mk X G W.n__law_is_primitive W.l__law_is_primitive W.b__law_is_primitive bb__law_is_primitive
  f__law_any_images := fi_mk X G W.n__law_any_images W.l__law_any_images W.b__law_any_images bb__law_any_images
  f__law_images := fi_mk X G W.n__law_images W.l__law_images W.b__law_images bb__law_images
  q_Rule := qi_mk X G W.n_Rule W.qc_Rule W.qn_Rule W.qb_Rule W.ql_Rule W.qf_Rule bb_Rule_eq
  f__law_right := fi_mk X G W.n__law_right W.l__law_right W.b__law_right bb__law_right
  f__law_pen := fi_mk X G W.n__law_pen W.l__law_pen W.b__law_pen bb__law_pen
  f_law := fi_mk X G W.n_law W.l_law W.b_law bb_law
  r_Rule := ri_mk X G W.n_Rule W.mk_Rule W.li_Rule W.bi_Rule bb_i_Rule
  x_BadRule := xi1_mk X G W.n_BadRule W.lx_BadRule W.ex_BadRule W.xi_BadRule W.no0_BadRule W.li_BadRule W.bi_BadRule bb_i_BadRule
  x_Unlike := xi1_mk X G W.n_Unlike W.lx_Unlike W.ex_Unlike W.xi_Unlike W.no0_Unlike W.li_Unlike W.bi_Unlike bb_i_Unlike
  pin := rfl
  m_RowError := nm_mg' X G W.n_RowError
  xk_BadRule := xk_mk X G W.n_BadRule W.xk_BadRule bsT_ok
  xk_Unlike := xk_mk X G W.n_Unlike W.xk_Unlike bsT_ok
  b_isinstance := nm_none X G W.z_isinstance
  b_ValueError := nm_none X G W.z_ValueError
  b_len := nm_none X G W.z_len
  b_tuple := nm_none X G W.z_tuple
  b_enumerate := nm_none X G W.z_enumerate
  b_range := nm_none X G W.z_range
  b_all := nm_none X G W.z_all
  b_dict := nm_none X G W.z_dict
  b_bool := nm_none X G W.z_bool
  b_int := nm_none X G W.z_int
  b_list := nm_none X G W.z_list
  b_sum := nm_none X G W.z_sum
  b_str := nm_none X G W.z_str
  b_sorted := nm_none X G W.z_sorted
  b_set := nm_none X G W.z_set
  c_MOST_LONG := nt_mk X G W.c_MOST_LONG
  c_MOST_ALL := nt_mk X G W.c_MOST_ALL
  c_MOST_IMAGE := nt_mk X G W.c_MOST_IMAGE
  c_MOST_IMAGES := nt_mk X G W.c_MOST_IMAGES
  k_NothingToRedo := nm_rel X G W.n_NothingToRedo
  k_NothingToUndo := nm_rel X G W.n_NothingToUndo
  k_NotKept := nm_rel X G W.n_NotKept
  k_TooMany := nm_rel X G W.n_TooMany
  k_NotThere := nm_rel X G W.n_NotThere
  k_Unlike := nm_rel X G W.n_Unlike
  k_TakenName := nm_rel X G W.n_TakenName
  k_NoName := nm_rel X G W.n_NoName
  k_NoPlace := nm_rel X G W.n_NoPlace
  k_BadText := nm_rel X G W.n_BadText
  k_BadName := nm_rel X G W.n_BadName
  k_BadBook := nm_rel X G W.n_BadBook
  k_BadWord := nm_rel X G W.n_BadWord
  k_BadRule := nm_rel X G W.n_BadRule
  k_BadTable := nm_rel X G W.n_BadTable
  k_BadRow := nm_rel X G W.n_BadRow
  k_BadNumber := nm_rel X G W.n_BadNumber
  k_Rule := nm_rel X G W.n_Rule
  d_images := List.forall_mem_cons.mpr ⟨fld_mk X G W.n_Rule W.cl_Rule W.fo_images_Rule, fun _ h => nomatch h⟩
  cls := List.forall_mem_cons.mpr ⟨clsok_mk X G W.n_Rule W.cl_Rule W.ob_Rule W.ty_Rule, fun _ h => nomatch h⟩
def tabsL (K : PySem.W.Frag) : List (Addr × Str) := [(tbK K "_law_one", (("_law_one" : Str) ++ ".<locals>.") ++ "<lambda>")]
def codesL (K : PySem.W.Frag) : List (Addr × Addr) := [(cdK K "_law_one", tbK K "_law_one")]
theorem law_at {l : PySem.W.OpenLaw} {w : World} {K : PySem.W.Frag} {mg : Str → Option Value} {fa : Addr} {h : Heap} {ts : List Addr} (X : K.In h) (G : h.Ns mainGlobals mg) (hfa : mg "law" = some (.ref fa)) (hts : ∀ P ∈ ts, h.get? P = some (PySem.W.tabObj #[])) (W : Facts K ts)
    (hl : ∀ ns : List Int, ns.length ≤ 63 → df_law [.fz (.scr ns)] (fun r => r = .fz (.bl true)) (fun _ => False)) : LamX.LawAtS l w K (L2.CX l.prog w) 15 63 "script" mg fa h := by
  have T : Txt (am K mg (tabsL K)) := txt_mk X G W
  have ea : (am K mg (tabsL K)).ad "law" = adK K "law" := nm_ad X G W.n_law
  have e1 : fa = adK K "law" := by
    have e2 := nm_mg X G W.n_law
    rw [hfa] at e2
    cases e2
    rfl
  subst e1
  have F : Fun K "law" "law" s_law (adK K "law") (fnK K (adK K "law") "law" "law" s_law) := fun_of W.l_law W.b_law
  refine ⟨fnK K (adK K "law") "law" "law" s_law, codesL K, spD (am K mg (tabsL K)) 1 df_law, ?_, ?_, ?_, fun s u => .of_eq (bb_law _ _ _ _ _ _ [u] rfl), ?_, ?_⟩
  · exact List.forall_mem_cons.mpr ⟨in_tabs (Q := fun P => h.get? P = some (PySem.W.tabObj #[])) hts W.ct__law_one, fun _ h => nomatch h⟩
  · exact List.forall_mem_cons.mpr ⟨(cd_hd X W.cd__law_one).2, fun _ h => nomatch h⟩
  · exact List.forall_mem_cons.mpr ⟨(cd_hd X W.cd__law_one).1, fun _ h => nomatch h⟩
  · intro H a ns hn _ hH hS
    exact sp_law (A := am K mg (tabsL K)) (cs := codesL K) (List.forall_mem_cons.mpr ⟨⟨cdK K "_law_one", .head _⟩, fun _ h => nomatch h⟩) hl H a ns hn hH hS
  · intro base KB GB hTB
    have Bs : Bas (am K mg (tabsL K)) base := ⟨code_mk X G W.n__law_one W.cd__law_one W.l__law_one (hTB _ (.head _)) (.head _) (List.forall_mem_cons.mpr ⟨fun _ => rfl, fun _ h => nomatch h⟩)⟩
    rw [← ea] at F ⊢
    exact ok_law T Bs F
end LW
namespace PM
/-! ### plain mathematics of images -/
def img (I : List (List Nat)) (a : Nat) : List Nat := I.getD a []
def wd (I : List (List Nat)) : Nat → Nat → List Nat
  | 0, a => [a]
  | n + 1, a => (img I a).flatMap (wd I n)
structure Good (I : List (List Nat)) : Prop where
  pos : 0 < I.length
  ne : ∀ a, a < I.length → img I a ≠ []
  lt : ∀ a, a < I.length → ∀ b ∈ img I a, b < I.length
section
variable {I : List (List Nat)}
theorem wd_add (n : Nat) : ∀ (k a : Nat), wd I (k + n) a = (wd I k a).flatMap (wd I n)
  | 0, a => by simp [wd]
  | k + 1, a => by
    rw [show k + 1 + n = (k + n) + 1 by omega]
    simp only [wd]
    rw [List.flatMap_assoc]
    congr 1
    funext b
    exact wd_add n k b
theorem wd_one (a : Nat) : wd I 1 a = img I a := by simp [wd]
theorem wd_lt (g : Good I) : ∀ (n a : Nat), a < I.length → ∀ b ∈ wd I n a, b < I.length
  | 0, a, h, b, hb => by simp [wd] at hb; omega
  | n + 1, a, h, b, hb => by
    simp only [wd, List.mem_flatMap] at hb
    obtain ⟨c, hc, hb⟩ := hb
    exact wd_lt g n c (g.lt a h c hc) b hb
def Met (I : List (List Nat)) (a b : Nat) : Prop := ∃ n, 1 ≤ n ∧ b ∈ wd I n a
theorem met_lt (g : Good I) {a b : Nat} (ha : a < I.length) (h : Met I a b) : b < I.length := by
  obtain ⟨n, _, h⟩ := h
  exact wd_lt g n a ha b h
theorem met_img {a b : Nat} (h : b ∈ img I a) : Met I a b := ⟨1, Nat.le_refl _, by rw [wd_one]; exact h⟩
theorem met_trans {a b c : Nat} (h : Met I a b) (h' : Met I b c) : Met I a c := by
  obtain ⟨n, n1, h⟩ := h
  obtain ⟨k, k1, h'⟩ := h'
  exact ⟨n + k, by omega, by rw [wd_add]; exact List.mem_flatMap.mpr ⟨b, h, h'⟩⟩
theorem met_first {a b : Nat} (h : Met I a b) : ∃ c ∈ img I a, c = b ∨ Met I c b := by
  obtain ⟨n, n1, h⟩ := h
  match n, n1, h with
  | n + 1, _, h =>
    simp only [wd, List.mem_flatMap] at h
    obtain ⟨c, hc, h⟩ := h
    refine ⟨c, hc, ?_⟩
    cases n with
    | zero => simp [wd] at h; exact .inl h.symm
    | succ n => exact .inr ⟨n + 1, by omega, h⟩
/-- what comes in 1 to j steps -/
def Wi (I : List (List Nat)) (a j b : Nat) : Prop := ∃ n, 1 ≤ n ∧ n ≤ j ∧ b ∈ wd I n a
theorem wi_succ {a j b : Nat} : Wi I a (j + 1) b ↔ b ∈ img I a ∨ ∃ c, Wi I a j c ∧ b ∈ img I c := by
  constructor
  · rintro ⟨n, n1, nj, h⟩
    match n, n1, nj, h with
    | 1, _, _, h => rw [wd_one] at h; exact .inl h
    | n + 2, _, nj, h =>
      rw [wd_add 1 (n + 1) a] at h
      obtain ⟨c, hc, h⟩ := List.mem_flatMap.mp h
      rw [wd_one] at h
      exact .inr ⟨c, ⟨n + 1, by omega, by omega, hc⟩, h⟩
  · rintro (h | ⟨c, ⟨n, n1, nj, hc⟩, h⟩)
    · exact ⟨1, by omega, by omega, by rw [wd_one]; exact h⟩
    · exact ⟨n + 1, by omega, by omega, by rw [wd_add]; exact List.mem_flatMap.mpr ⟨c, hc, by rw [wd_one]; exact h⟩⟩
theorem cnt_le {p q : Nat → Bool} : ∀ {l : List Nat}, (∀ x ∈ l, p x = true → q x = true) → l.countP p ≤ l.countP q
  | [], _ => Nat.le_refl _
  | y :: l, h => by
    have := cnt_le (l := l) fun x hx => h x (List.mem_cons_of_mem _ hx)
    have hy := h y List.mem_cons_self
    simp only [List.countP_cons]
    cases hp : p y
    · simp; omega
    · simp [hy hp]; omega
theorem cnt_lt {p q : Nat → Bool} {z : Nat} : ∀ {l : List Nat}, (∀ x ∈ l, p x = true → q x = true) → z ∈ l → q z = true → p z = false → l.countP p < l.countP q
  | y :: l, h, hz, hq, hp => by
    have h' : ∀ x ∈ l, p x = true → q x = true := fun x hx => h x (List.mem_cons_of_mem _ hx)
    simp only [List.countP_cons]
    rcases List.mem_cons.mp hz with e | hz
    · subst e
      have := cnt_le h'
      simp [hq, hp]; omega
    · have := cnt_lt h' hz hq hp
      have hy := h y List.mem_cons_self
      cases hpy : p y
      · simp; omega
      · simp [hy hpy]; omega
theorem cnt_all {p : Nat → Bool} {l : List Nat} : l.countP p ≤ l.length := List.countP_le_length
open Classical in
/-- a growing family of subsets of the first m numbers, each told by the one ahead: it stands still behind m steps -/
theorem fix_le {m : Nat} {p : Nat → Nat → Prop} (mono : ∀ j b, p j b → p (j + 1) b) (det : ∀ i, (∀ b, p i b ↔ p (i + 1) b) → ∀ b, p (i + 1) b ↔ p (i + 2) b) (bd : ∀ j b, p j b → b < m) : ∀ j b, p j b → p m b := by
  have monos : ∀ j k b, p j b → p (j + k) b := fun j k b h => by
    induction k with
    | zero => exact h
    | succ k ih => exact mono _ _ ih
  have stay : ∀ i, (∀ b, p i b ↔ p (i + 1) b) → ∀ k b, p (i + k) b ↔ p i b := fun i h k => by
    have hk : ∀ k, (∀ b, p (i + k) b ↔ p (i + k + 1) b) := fun k => by
      induction k with
      | zero => exact h
      | succ k ih => exact det _ ih
    induction k with
    | zero => exact fun b => Iff.rfl
    | succ k ih => exact fun b => (hk k b).symm.trans (ih b)
  have grow : ∀ j, j ≤ (List.range m).countP (fun b => decide (p j b)) ∨ ∃ i, i < j ∧ ∀ b, p i b ↔ p (i + 1) b := fun j => by
    induction j with
    | zero => exact .inl (Nat.zero_le _)
    | succ j ih =>
      rcases ih with ih | ⟨i, hi, h⟩
      · by_cases e : ∀ b, p j b ↔ p (j + 1) b
        · exact .inr ⟨j, by omega, e⟩
        · refine .inl ?_
          have : ∃ b, p (j + 1) b ∧ ¬ p j b := by
            apply Classical.byContradiction
            intro no
            exact e fun b => ⟨mono j b, fun h => Classical.byContradiction fun z => no ⟨b, h, z⟩⟩
          obtain ⟨b, h1, h2⟩ := this
          have := cnt_lt (p := fun b => decide (p j b)) (q := fun b => decide (p (j + 1) b)) (l := List.range m) (z := b) (fun x _ h => by simp at h ⊢; exact mono _ _ h) (List.mem_range.mpr (bd _ _ h1)) (by simpa using h1) (by simpa using h2)
          omega
      · exact .inr ⟨i, by omega, h⟩
  have : ∃ i, i < m + 1 ∧ ∀ b, p i b ↔ p (i + 1) b := by
    rcases grow (m + 1) with h | h
    · have := cnt_all (p := fun b => decide (p (m + 1) b)) (l := List.range m)
      rw [List.length_range] at this
      omega
    · exact h
  obtain ⟨i, hi, h⟩ := this
  intro j b hj
  have h1 : p (i + j) b := by rw [Nat.add_comm]; exact monos j i b hj
  have h2 := (stay i h j b).mp h1
  have := monos i (m - i) b h2
  rwa [show i + (m - i) = m by omega] at this
theorem wi_mono {a j b : Nat} (h : Wi I a j b) : Wi I a (j + 1) b := by
  obtain ⟨n, n1, nj, h⟩ := h
  exact ⟨n, n1, by omega, h⟩
theorem wi_met (g : Good I) {a b : Nat} (ha : a < I.length) (h : Met I a b) : Wi I a I.length b := by
  obtain ⟨n, n1, h⟩ := h
  refine fix_le (p := Wi I a) (fun j b => wi_mono) (fun i e b => ?_) (fun j b => ?_) n b ⟨n, n1, Nat.le_refl _, h⟩
  · rw [wi_succ, wi_succ]
    exact ⟨fun z => z.imp id fun ⟨c, hc, hb⟩ => ⟨c, (e c).mp hc, hb⟩, fun z => z.imp id fun ⟨c, hc, hb⟩ => ⟨c, (e c).mpr hc, hb⟩⟩
  · rintro ⟨n, _, _, h⟩
    exact wd_lt g n a ha b h
theorem met_wi (g : Good I) {a b j : Nat} (ha : a < I.length) (hj : I.length ≤ j) : Wi I a j b ↔ Met I a b := by
  constructor
  · rintro ⟨n, n1, _, h⟩; exact ⟨n, n1, h⟩
  · intro h
    obtain ⟨n, n1, n2, h⟩ := wi_met g ha h
    exact ⟨n, n1, by omega, h⟩
/-! ### lengths -/
def ln (I : List (List Nat)) (n a : Nat) : Nat := (wd I n a).length
theorem ln_add (k n a : Nat) : ln I (k + n) a = ((wd I k a).map (ln I n)).sum := by
  unfold ln
  rw [wd_add, List.length_flatMap]
theorem ln_succ (n a : Nat) : ln I (n + 1) a = ((img I a).map (ln I n)).sum := by
  rw [Nat.add_comm, ln_add, wd_one]
theorem sum_le {f h : Nat → Nat} : ∀ {l : List Nat}, (∀ x ∈ l, f x ≤ h x) → (l.map f).sum ≤ (l.map h).sum
  | [], _ => Nat.le_refl _
  | y :: l, e => by
    have := sum_le (l := l) fun x hx => e x (List.mem_cons_of_mem _ hx)
    have := e y List.mem_cons_self
    simp; omega
theorem sum_lt {f h : Nat → Nat} {z : Nat} : ∀ {l : List Nat}, (∀ x ∈ l, f x ≤ h x) → z ∈ l → f z < h z → (l.map f).sum < (l.map h).sum
  | y :: l, e, hz, hl => by
    have e' : ∀ x ∈ l, f x ≤ h x := fun x hx => e x (List.mem_cons_of_mem _ hx)
    have := e y List.mem_cons_self
    rcases List.mem_cons.mp hz with q | hz
    · subst q
      have := sum_le e'
      simp; omega
    · have := sum_lt e' hz hl
      simp; omega
theorem ln_pos (g : Good I) : ∀ (n a : Nat), a < I.length → 1 ≤ ln I n a
  | 0, a, _ => by simp [ln, wd]
  | n + 1, a, h => by
    rw [ln_succ]
    cases e : img I a with
    | nil => exact (g.ne a h e).elim
    | cons b l =>
      have := ln_pos g n b (g.lt a h b (by rw [e]; exact List.mem_cons_self))
      simp; omega
theorem ln_mono1 (g : Good I) (n a : Nat) (h : a < I.length) : ln I n a ≤ ln I (n + 1) a := by
  rw [ln_add]
  have : ∀ l : List Nat, (∀ x ∈ l, x < I.length) → l.length ≤ (l.map (ln I 1)).sum := fun l hl => by
    induction l with
    | nil => simp
    | cons x l ih =>
      have := ih fun y hy => hl y (List.mem_cons_of_mem _ hy)
      have := ln_pos g 1 x (hl x List.mem_cons_self)
      simp; omega
  exact this _ fun x hx => wd_lt g n a h x hx
theorem ln_mono (g : Good I) {n k a : Nat} (h : a < I.length) (hk : n ≤ k) : ln I n a ≤ ln I k a := by
  obtain ⟨d, rfl⟩ := Nat.exists_eq_add_of_le hk
  induction d with
  | zero => exact Nat.le_refl _
  | succ d ih => exact Nat.le_trans (ih (by omega)) (ln_mono1 g (n + d) a h)
/-- letters that grow -/
def Gr (I : List (List Nat)) (a : Nat) : Prop := ∃ v, Met I a v ∧ Met I v v ∧ 1 < (img I v).length
theorem len_one {l : List Nat} {f : Nat → Nat} {v : Nat} (hp : ∀ x ∈ l, 1 ≤ f x) (hv : v ∈ l) (h2 : 2 ≤ l.length) : f v + 1 ≤ (l.map f).sum := by
  have low : ∀ l : List Nat, (∀ x ∈ l, 1 ≤ f x) → l.length ≤ (l.map f).sum := fun l hl => by
    induction l with
    | nil => simp
    | cons x l ih =>
      have := ih fun y hy => hl y (List.mem_cons_of_mem _ hy)
      have := hl x List.mem_cons_self
      simp; omega
  induction l with
  | nil => cases hv
  | cons x l ih =>
    have hp' : ∀ y ∈ l, 1 ≤ f y := fun y hy => hp y (List.mem_cons_of_mem _ hy)
    have h3 := low l hp'
    rcases List.mem_cons.mp hv with q | hv
    · subst q
      simp at h2 ⊢; omega
    · cases l with
      | nil => cases hv
      | cons y l =>
        have hx := hp x List.mem_cons_self
        cases l with
        | nil =>
          simp at hv
          subst hv
          simp; omega
        | cons z l =>
          have := ih hp' hv (by simp)
          simp at this ⊢; omega
theorem gr_up (g : Good I) {a : Nat} (ha : a < I.length) (h : Gr I a) : ln I (I.length + 1) a < ln I (2 * I.length + 2) a := by
  obtain ⟨v, h1, h2, h3⟩ := h
  have hv := met_lt g ha h1
  obtain ⟨d, d1, d2, hd⟩ := wi_met g ha h1
  obtain ⟨c, c1, c2, hc⟩ := wi_met g hv h2
  have two : 2 ≤ ln I c v := Nat.le_trans (by unfold ln; rw [wd_one]; exact h3) (ln_mono g hv c1)
  rw [show I.length + 1 = d + (I.length + 1 - d) by omega, show 2 * I.length + 2 = d + (2 * I.length + 2 - d) by omega, ln_add, ln_add]
  refine sum_lt (fun x hx => ln_mono g (wd_lt g d a ha x hx) (by omega)) hd ?_
  have e1 : ln I (I.length + 1 - d) v < ln I (c + (I.length + 1 - d)) v := by
    rw [ln_add]
    exact len_one (fun x hx => ln_pos g _ x (wd_lt g c v hv x hx)) hc two
  exact Nat.lt_of_lt_of_le e1 (ln_mono g hv (by omega))
open Classical in
theorem gr_stay (g : Good I) : ∀ (k a : Nat), a < I.length → ¬ Gr I a → (List.range I.length).countP (fun b => decide (b = a ∨ Met I a b)) ≤ k → ∀ n, k ≤ n → ln I n a = ln I k a
  | 0, a, ha, _, hr => by
    have : 0 < (List.range I.length).countP (fun b => decide (b = a ∨ Met I a b)) := List.countP_pos_iff.mpr ⟨a, List.mem_range.mpr ha, by simp⟩
    omega
  | k + 1, a, ha, hN, hr => by
    intro n hn
    by_cases hm : Met I a a
    · have one : ∀ n, ∃ x, wd I n a = [x] ∧ Met I a x ∧ Met I x a := fun n => by
        induction n with
        | zero => exact ⟨a, rfl, hm, hm⟩
        | succ n ih =>
          obtain ⟨x, e, h1, h2⟩ := ih
          have hx := met_lt g ha h1
          have hl : ¬ 1 < (img I x).length := fun z => hN ⟨x, h1, met_trans h2 h1, z⟩
          have hne := g.ne x hx
          obtain ⟨y, ey⟩ : ∃ y, img I x = [y] := by
            cases q : img I x with
            | nil => exact (hne q).elim
            | cons y l =>
              cases l with
              | nil => exact ⟨y, rfl⟩
              | cons z l => rw [q] at hl; simp at hl
          refine ⟨y, by rw [wd_add, e]; simp [wd_one, ey], met_trans h1 (met_img (by rw [ey]; exact List.mem_cons_self)), ?_⟩
          obtain ⟨c, hc, hc2⟩ := met_first h2
          rw [ey] at hc
          simp at hc
          subst hc
          rcases hc2 with q | q
          · subst q; exact hm
          · exact q
      have l1 : ∀ n, ln I n a = 1 := fun n => by
        obtain ⟨x, e, _⟩ := one n
        unfold ln; rw [e]; rfl
      rw [l1, l1]
    · obtain ⟨n, rfl⟩ : ∃ q, n = q + 1 := ⟨n - 1, by omega⟩
      rw [ln_succ, ln_succ]
      congr 1
      apply List.map_congr_left
      intro b hb
      have hbl := g.lt a ha b hb
      have hab : Met I a b := met_img hb
      refine gr_stay g k b hbl (fun ⟨v, v1, v2⟩ => hN ⟨v, met_trans hab v1, v2⟩) ?_ n (by omega)
      have : (List.range I.length).countP (fun c => decide (c = b ∨ Met I b c)) < (List.range I.length).countP (fun c => decide (c = a ∨ Met I a c)) := by
        refine cnt_lt (z := a) (fun x _ hx => ?_) (List.mem_range.mpr ha) (by simp) ?_
        · simp at hx ⊢
          rcases hx with rfl | hx
          · exact .inr hab
          · exact .inr (met_trans hab hx)
        · simp
          refine ⟨fun z => by subst z; exact hm hab, fun z => hm (met_trans hab z)⟩
      omega
theorem gr_iff (g : Good I) {a : Nat} (ha : a < I.length) : Gr I a ↔ ln I (I.length + 1) a < ln I (2 * I.length + 2) a := by
  constructor
  · exact gr_up g ha
  · intro h
    apply Classical.byContradiction
    intro no
    have hc : ∀ n, I.length ≤ n → ln I n a = ln I I.length a := by
      refine gr_stay g I.length a ha no ?_
      exact Nat.le_trans cnt_all (by rw [List.length_range]; exact Nat.le_refl _)
    rw [hc (I.length + 1) (by omega), hc (2 * I.length + 2) (by omega)] at h
    omega
end
end PM
namespace PM
/-! ### letters by first places -/
def foS (l : List Nat) (a : Nat) : List Nat := if a ∈ l then l else l ++ [a]
def fo (w : List Nat) : List Nat := w.foldl foS []
theorem fo_snoc (w : List Nat) (a : Nat) : fo (w ++ [a]) = foS (fo w) a := by simp [fo]
theorem foS_pre (l : List Nat) (a : Nat) : l <+: foS l a := by
  unfold foS; split
  · exact List.prefix_refl _
  · exact List.prefix_append _ _
theorem foldl_pre : ∀ (v l : List Nat), l <+: v.foldl foS l
  | [], l => List.prefix_refl _
  | a :: v, l => (foS_pre l a).trans (foldl_pre v (foS l a))
theorem foS_mem {l : List Nat} {a b : Nat} : b ∈ foS l a ↔ b ∈ l ∨ b = a := by
  unfold foS; split
  · constructor
    · exact .inl
    · rintro (h | rfl) <;> assumption
  · simp
theorem foS_nd {l : List Nat} {a : Nat} (h : l.Nodup) : (foS l a).Nodup := by
  unfold foS; split
  · exact h
  · rename_i hn
    rw [List.nodup_append]
    exact ⟨h, by simp, fun x hx y hy => by simp at hy; subst hy; exact fun z => hn (z ▸ hx)⟩
theorem foldl_mem : ∀ (v l : List Nat) (b : Nat), b ∈ v.foldl foS l ↔ b ∈ l ∨ b ∈ v
  | [], l, b => by simp
  | a :: v, l, b => by rw [List.foldl_cons, foldl_mem v, foS_mem]; simp [or_assoc]
theorem foldl_nd : ∀ (v l : List Nat), l.Nodup → (v.foldl foS l).Nodup
  | [], l, h => h
  | a :: v, l, h => foldl_nd v _ (foS_nd h)
theorem fo_mem {w : List Nat} {b : Nat} : b ∈ fo w ↔ b ∈ w := by simp [fo, foldl_mem]
theorem fo_nd (w : List Nat) : (fo w).Nodup := foldl_nd w [] List.nodup_nil
theorem fo_app (w v : List Nat) : fo (w ++ v) = v.foldl foS (fo w) := by simp [fo]
theorem fo_pre {w v : List Nat} (h : w <+: v) : fo w <+: fo v := by
  obtain ⟨t, rfl⟩ := h
  rw [fo_app]
  exact foldl_pre _ _
theorem foldl_old : ∀ (v l : List Nat), (∀ b ∈ v, b ∈ l) → v.foldl foS l = l
  | [], l, _ => rfl
  | a :: v, l, h => by
    have : foS l a = l := by unfold foS; rw [if_pos (h a List.mem_cons_self)]
    rw [List.foldl_cons, this]
    exact foldl_old v l fun b hb => h b (List.mem_cons_of_mem _ hb)
theorem fo_old {w v : List Nat} (h : ∀ b ∈ v, b ∈ w) : fo (w ++ v) = fo w := by
  rw [fo_app]; exact foldl_old _ _ fun b hb => fo_mem.mpr (h b hb)
theorem foldl_map {f : Nat → Nat} : ∀ (v l : List Nat), (∀ x ∈ l ++ v, ∀ y ∈ l ++ v, f x = f y → x = y) → (v.map f).foldl foS (l.map f) = (v.foldl foS l).map f
  | [], l, _ => rfl
  | a :: v, l, h => by
    have e : foS (l.map f) (f a) = (foS l a).map f := by
      unfold foS
      by_cases ha : a ∈ l
      · rw [if_pos ha, if_pos (List.mem_map_of_mem ha)]
      · rw [if_neg ha, if_neg]
        · simp
        · intro hm
          obtain ⟨x, hx, e⟩ := List.mem_map.mp hm
          have := h x (List.mem_append_left _ hx) a (List.mem_append_right _ List.mem_cons_self) e
          exact ha (this ▸ hx)
    rw [List.map_cons, List.foldl_cons, List.foldl_cons, e]
    refine foldl_map v _ fun x hx y hy => h x ?_ y ?_
    · rcases List.mem_append.mp hx with q | q
      · rcases foS_mem.mp q with q | rfl
        · exact List.mem_append_left _ q
        · exact List.mem_append_right _ List.mem_cons_self
      · exact List.mem_append_right _ (List.mem_cons_of_mem _ q)
    · rcases List.mem_append.mp hy with q | q
      · rcases foS_mem.mp q with q | rfl
        · exact List.mem_append_left _ q
        · exact List.mem_append_right _ List.mem_cons_self
      · exact List.mem_append_right _ (List.mem_cons_of_mem _ q)
theorem fo_map {f : Nat → Nat} {w : List Nat} (h : ∀ x ∈ w, ∀ y ∈ w, f x = f y → x = y) : fo (w.map f) = (fo w).map f := by
  have := foldl_map (f := f) w [] (by simpa using h)
  simpa [fo] using this
/-! ### the row -/
section
variable {I : List (List Nat)}
structure Row (I : List (List Nat)) : Prop where
  g : Good I
  h0 : ∃ t, img I 0 = 0 :: t ∧ t ≠ []
  met : ∀ b, b < I.length → Met I 0 b
theorem wd_img (k a : Nat) : wd I (k + 1) a = (wd I k a).flatMap (img I) := by
  rw [show k + 1 = k + 1 from rfl, wd_add 1 k a]
  congr 1
  funext b
  exact wd_one b
theorem wd_pre1 (h : ∃ t, img I 0 = 0 :: t ∧ t ≠ []) (k : Nat) : wd I k 0 <+: wd I (k + 1) 0 := by
  obtain ⟨t, e, _⟩ := h
  show _ <+: (img I 0).flatMap (wd I k)
  rw [e, List.flatMap_cons]
  exact List.prefix_append _ _
theorem wd_pre (h : ∃ t, img I 0 = 0 :: t ∧ t ≠ []) {k n : Nat} (hk : k ≤ n) : wd I k 0 <+: wd I n 0 := by
  induction hk with
  | refl => exact List.prefix_refl _
  | step _ ih => exact ih.trans (wd_pre1 h _)
theorem wd_grow (r : Row I) (k : Nat) : (wd I k 0).length < (wd I (k + 1) 0).length := by
  obtain ⟨t, e, ht⟩ := r.h0
  show _ < ((img I 0).flatMap (wd I k)).length
  rw [e, List.flatMap_cons, List.length_append, List.length_flatMap]
  obtain ⟨c, t', rfl⟩ := List.exists_cons_of_ne_nil ht
  have hc : c < I.length := r.g.lt 0 r.g.pos c (by rw [e]; simp)
  have := ln_pos r.g k c hc
  unfold ln at this
  simp
  omega
theorem wd_ge (r : Row I) : ∀ k : Nat, k + 1 ≤ (wd I k 0).length
  | 0 => by simp [wd]
  | k + 1 => by have := wd_grow r k; have := wd_ge r k; omega
theorem row_all (r : Row I) {b : Nat} (hb : b < I.length) : b ∈ wd I I.length 0 := by
  obtain ⟨n, n1, n2, h⟩ := wi_met r.g r.g.pos (r.met b hb)
  exact (wd_pre r.h0 n2).subset h
/-- the letters by first places in the row -/
def ord (I : List (List Nat)) : List Nat := fo (wd I I.length 0)
theorem ord_mem (r : Row I) {b : Nat} : b ∈ ord I ↔ b < I.length :=
  ⟨fun h => wd_lt r.g _ 0 r.g.pos b (fo_mem.mp h), fun h => fo_mem.mpr (row_all r h)⟩
theorem ord_nd (I : List (List Nat)) : (ord I).Nodup := fo_nd _
theorem ord_perm (r : Row I) : (ord I).Perm (List.range I.length) := by
  rw [List.perm_ext_iff_of_nodup (ord_nd I) List.nodup_range]
  intro b
  rw [ord_mem r, List.mem_range]
theorem ord_len (r : Row I) : (ord I).length = I.length := by
  have := (ord_perm r).length_eq
  simpa using this
theorem ord_at (r : Row I) {k : Nat} (hk : I.length ≤ k) : fo (wd I k 0) = ord I := by
  obtain ⟨t, e⟩ := wd_pre r.h0 hk
  rw [← e]
  refine fo_old fun b hb => row_all r ?_
  exact wd_lt r.g k 0 r.g.pos b (by rw [← e]; exact List.mem_append_right _ hb)
theorem ord_of (r : Row I) {w : List Nat} {k : Nat} (hw : w <+: wd I k 0) (hl : I.length ≤ (fo w).length) : fo w = ord I := by
  have h1 : w <+: wd I (max k I.length) 0 := hw.trans (wd_pre r.h0 (Nat.le_max_left _ _))
  have h2 := fo_pre h1
  rw [ord_at r (Nat.le_max_right _ _)] at h2
  refine h2.eq_of_length ?_
  have := h2.length_le
  rw [ord_len r] at this ⊢
  omega
/-- the number of a letter -/
def nm (I : List (List Nat)) (b : Nat) : Nat := (ord I).idxOf b
theorem nm_lt (r : Row I) {b : Nat} (h : b < I.length) : nm I b < I.length := by
  have := List.idxOf_lt_length_of_mem ((ord_mem r).mpr h)
  rwa [ord_len r] at this
theorem nm_inj (r : Row I) {a b : Nat} (ha : a < I.length) (hb : b < I.length) (h : nm I a = nm I b) : a = b := by
  have h1 := List.idxOf_lt_length_of_mem ((ord_mem r).mpr ha)
  have h2 := List.idxOf_lt_length_of_mem ((ord_mem r).mpr hb)
  have e1 := List.getElem_idxOf h1
  have e2 := List.getElem_idxOf h2
  have : (ord I)[(ord I).idxOf a]'h1 = (ord I)[(ord I).idxOf b]'h2 := by
    congr 1
  rw [e1, e2] at this
  exact this
theorem fo_zero {w : List Nat} (h : [0] <+: w) : ∃ t, fo w = 0 :: t := by
  obtain ⟨t, e⟩ := fo_pre h
  exact ⟨t, by rw [← e]; rfl⟩
theorem nm_zero (r : Row I) : nm I 0 = 0 := by
  have h : [0] <+: wd I I.length 0 := by
    have := wd_pre r.h0 (Nat.zero_le I.length)
    simpa [wd] using this
  obtain ⟨t, e⟩ := fo_zero h
  unfold nm ord
  rw [e]
  simp
/-! ### letters named otherwise -/
structure Ren (n : Nat) (f : Nat → Nat) : Prop where
  lt : ∀ a, a < n → f a < n
  inj : ∀ a, a < n → ∀ b, b < n → f a = f b → a = b
  z : f 0 = 0
theorem nm_ren (r : Row I) : Ren I.length (nm I) := ⟨fun _ h => nm_lt r h, fun _ ha _ hb h => nm_inj r ha hb h, nm_zero r⟩
theorem ren_perm {n : Nat} {f : Nat → Nat} (h : Ren n f) : ((List.range n).map f).Perm (List.range n) := by
  have nd : ((List.range n).map f).Nodup := by
    rw [List.nodup_iff_pairwise_ne, List.pairwise_map]
    have := List.nodup_range (n := n)
    rw [List.nodup_iff_pairwise_ne] at this
    refine this.imp_of_mem fun ha hb hne he => hne (h.inj _ (List.mem_range.mp ha) _ (List.mem_range.mp hb) he)
  have sub : ∀ b ∈ (List.range n).map f, b ∈ List.range n := fun b hb => by
    obtain ⟨a, ha, rfl⟩ := List.mem_map.mp hb
    exact List.mem_range.mpr (h.lt a (List.mem_range.mp ha))
  rw [List.perm_ext_iff_of_nodup nd List.nodup_range]
  intro b
  refine ⟨sub b, fun hb => Classical.byContradiction fun no => ?_⟩
  have := List.Nodup.length_le_of_subset (List.nodup_cons.mpr ⟨no, nd⟩) (l₂ := List.range n) fun c hc => by
    rcases List.mem_cons.mp hc with rfl | hc
    · exact hb
    · exact sub c hc
  simp at this
  omega
theorem ren_sur {n : Nat} {f : Nat → Nat} (h : Ren n f) {b : Nat} (hb : b < n) : ∃ a, a < n ∧ f a = b := by
  have : b ∈ (List.range n).map f := (ren_perm h).mem_iff.mpr (List.mem_range.mpr hb)
  obtain ⟨a, ha, e⟩ := List.mem_map.mp this
  exact ⟨a, List.mem_range.mp ha, e⟩
def renL (I : List (List Nat)) (f : Nat → Nat) (k : Nat) : List (List Nat) := (List.range k).foldl (fun L a => L.set (f a) ((img I a).map f)) (List.replicate I.length [])
theorem renL_succ (f : Nat → Nat) (k : Nat) : renL I f (k + 1) = (renL I f k).set (f k) ((img I k).map f) := by
  simp [renL, List.range_succ]
theorem renL_len (f : Nat → Nat) (k : Nat) : (renL I f k).length = I.length := by
  induction k with
  | zero => simp [renL]
  | succ k ih => rw [renL_succ]; simpa using ih
def ren (I : List (List Nat)) (f : Nat → Nat) : List (List Nat) := renL I f I.length
theorem ren_len (f : Nat → Nat) : (ren I f).length = I.length := renL_len f _
theorem renL_at {f : Nat → Nat} (h : Ren I.length f) : ∀ k, k ≤ I.length → ∀ a, a < k → (renL I f k)[f a]? = some ((img I a).map f)
  | 0, _, a, ha => by omega
  | k + 1, hk, a, ha => by
    rw [renL_succ]
    by_cases e : a = k
    · subst e
      rw [List.getElem?_set_self]
      rw [renL_len]
      exact h.lt a (by omega)
    · rw [List.getElem?_set_ne]
      · exact renL_at h k (by omega) a (by omega)
      · intro z
        exact e (h.inj k (by omega) a (by omega) z).symm
theorem ren_img {f : Nat → Nat} (h : Ren I.length f) {a : Nat} (ha : a < I.length) : img (ren I f) (f a) = (img I a).map f := by
  have := renL_at h I.length (Nat.le_refl _) a ha
  unfold img at this ⊢
  unfold ren
  rw [List.getD_eq_getElem?_getD, this]
  rfl
theorem ren_wd {f : Nat → Nat} (g : Good I) (h : Ren I.length f) : ∀ (k a : Nat), a < I.length → wd (ren I f) k (f a) = (wd I k a).map f
  | 0, a, _ => by simp [wd]
  | k + 1, a, ha => by
    show (img (ren I f) (f a)).flatMap (wd (ren I f) k) = ((img I a).flatMap (wd I k)).map f
    rw [ren_img h ha, List.map_flatMap, List.flatMap_map]
    rw [List.flatMap_def, List.flatMap_def]
    congr 1
    apply List.map_congr_left
    intro b hb
    exact ren_wd g h k b (g.lt a ha b hb)
theorem ren_row {f : Nat → Nat} (g : Good I) (h : Ren I.length f) (k : Nat) : wd (ren I f) k 0 = (wd I k 0).map f := by
  have := ren_wd g h k 0 g.pos
  rwa [h.z] at this
theorem ren_good {f : Nat → Nat} (g : Good I) (h : Ren I.length f) : Good (ren I f) := by
  refine ⟨by rw [ren_len]; exact g.pos, fun b hb => ?_, fun b hb c hc => ?_⟩
  · rw [ren_len] at hb
    obtain ⟨a, ha, rfl⟩ := ren_sur h hb
    rw [ren_img h ha]
    simpa using g.ne a ha
  · rw [ren_len] at hb ⊢
    obtain ⟨a, ha, rfl⟩ := ren_sur h hb
    rw [ren_img h ha] at hc
    obtain ⟨x, hx, rfl⟩ := List.mem_map.mp hc
    exact h.lt x (g.lt a ha x hx)
theorem ren_ord {f : Nat → Nat} (r : Row I) (h : Ren I.length f) : ord (ren I f) = (ord I).map f := by
  unfold ord
  rw [ren_len, ren_row r.g h, fo_map]
  intro x hx y hy e
  exact h.inj x (wd_lt r.g _ 0 r.g.pos x hx) y (wd_lt r.g _ 0 r.g.pos y hy) e
theorem ren_sum {f : Nat → Nat} (h : Ren I.length f) : ((ren I f).map List.length).sum = (I.map List.length).sum := by
  have e : ∀ J : List (List Nat), (J.map List.length) = (List.range J.length).map fun a => (img J a).length := fun J => by
    apply List.ext_getElem
    · simp
    · intro i h1 h2
      simp at h1
      simp [img, h1]
  rw [e, e, ren_len]
  have p := (ren_perm h).map fun b => (img (ren I f) b).length
  have := p.sum_nat
  rw [← this, List.map_map]
  congr 1
  apply List.map_congr_left
  intro a ha
  simp [ren_img h (List.mem_range.mp ha)]
theorem ren_Row {f : Nat → Nat} (r : Row I) (h : Ren I.length f) : Row (ren I f) := by
  refine ⟨ren_good r.g h, ?_, fun b hb => ?_⟩
  · obtain ⟨t, e, ht⟩ := r.h0
    refine ⟨t.map f, ?_, by simpa using ht⟩
    have := ren_img h r.g.pos
    rw [h.z, e] at this
    rw [this]
    simp [h.z]
  · rw [ren_len] at hb
    obtain ⟨a, ha, rfl⟩ := ren_sur h hb
    obtain ⟨n, n1, hn⟩ := r.met a ha
    exact ⟨n, n1, by rw [ren_row r.g h]; exact List.mem_map_of_mem hn⟩
theorem idx_self : ∀ {l : List Nat}, l.Nodup → l.map (fun b => l.idxOf b) = List.range l.length := fun {l} nd => by
  apply List.ext_getElem
  · simp
  · intro i h1 h2
    simp at h1
    simp [List.Nodup.idxOf_getElem nd]
theorem well_ord (r : Row I) : ord (ren I (nm I)) = List.range I.length := by
  rw [ren_ord r (nm_ren r)]
  have := idx_self (ord_nd I)
  rw [ord_len r] at this
  exact this
theorem well_nm (r : Row I) {b : Nat} (hb : b < I.length) : nm (ren I (nm I)) b = b := by
  show (ord (ren I (nm I))).idxOf b = b
  rw [well_ord r]
  have h1 : (List.range I.length)[b]'(by simpa using hb) = b := by simp
  have := List.Nodup.idxOf_getElem (List.nodup_range (n := I.length)) b (by simpa using hb)
  rwa [h1] at this
theorem ren_id {f : Nat → Nat} (g : Good I) (hf : ∀ b, b < I.length → f b = b) : ren I f = I := by
  have h : Ren I.length f := ⟨fun a ha => by rw [hf a ha]; exact ha, fun a ha b hb e => by rwa [hf a ha, hf b hb] at e, hf 0 g.pos⟩
  apply List.ext_getElem
  · exact ren_len f
  · intro i h1 h2
    have e := ren_img h h2
    rw [hf i h2] at e
    have e2 : (img I i).map f = img I i := by
      conv => rhs; rw [← List.map_id (img I i)]
      apply List.map_congr_left
      intro b hb
      exact hf b (g.lt i h2 b hb)
    rw [e2] at e
    simpa [img, h1, h2] using e
theorem well_well (r : Row I) : ren (ren I (nm I)) (nm (ren I (nm I))) = ren I (nm I) :=
  ren_id (ren_good r.g (nm_ren r)) fun b hb => by rw [ren_len] at hb; exact well_nm r hb
end
end PM
namespace PM
section
variable {I : List (List Nat)}
/-- the first L letters of the row -/
def rowS (I : List (List Nat)) (L : Nat) : List Nat := (wd I L 0).take L
theorem rowS_of (r : Row I) {k L : Nat} (h : L ≤ (wd I k 0).length) : (wd I k 0).take L = rowS I L := by
  unfold rowS
  have h2 : L ≤ (wd I L 0).length := Nat.le_of_lt (wd_ge r L)
  rcases Nat.le_total k L with q | q
  · obtain ⟨t, e⟩ := wd_pre r.h0 q
    rw [← e, List.take_append_of_le_length h]
  · obtain ⟨t, e⟩ := wd_pre r.h0 q
    rw [← e, List.take_append_of_le_length h2]
theorem rowS_len (r : Row I) (L : Nat) : (rowS I L).length = L := by
  have := wd_ge r L
  unfold rowS
  rw [List.length_take]
  omega
theorem rowS_lt (r : Row I) {L b : Nat} (h : b ∈ rowS I L) : b < I.length := wd_lt r.g L 0 r.g.pos b (List.mem_of_mem_take h)
theorem rowS_ord (r : Row I) {L : Nat} (h : (wd I I.length 0).length ≤ L) : fo (rowS I L) = ord I := by
  have h1 : wd I I.length 0 <+: rowS I L := by
    rw [← rowS_of r (k := max L I.length) (by have := (wd_pre r.h0 (Nat.le_max_left L I.length)).length_le; have := wd_ge r L; omega)]
    have p := wd_pre r.h0 (Nat.le_max_right L I.length)
    obtain ⟨t, e⟩ := p
    rw [← e, List.take_append]
    refine ⟨t.take (L - (wd I I.length 0).length), ?_⟩
    rw [List.take_of_length_le h]
  refine ord_of r (k := L) (List.take_prefix _ _) ?_
  have h2 := (fo_pre h1).length_le
  have h3 := ord_len r
  unfold ord at h3
  omega
theorem ren_rowS {f : Nat → Nat} (r : Row I) (h : Ren I.length f) (L : Nat) : rowS (ren I f) L = (rowS I L).map f := by
  unfold rowS
  rw [ren_row r.g h, List.map_take]
theorem ren_of_perm {n : Nat} {o : List Nat} (h : o.Perm (List.range n)) (h0 : o[0]? = some 0) : Ren n (fun a => o.getD a 0) := by
  have hl : o.length = n := by have := h.length_eq; simpa using this
  have nd : o.Nodup := h.symm.nodup List.nodup_range
  have g : ∀ a (ha : a < n), o.getD a 0 = o[a]'(by omega) := fun a ha => by simp [List.getD_eq_getElem?_getD, hl, ha]
  refine ⟨fun a ha => ?_, fun a ha b hb e => ?_, ?_⟩
  · show o.getD a 0 < n
    rw [g a ha]
    exact List.mem_range.mp (h.mem_iff.mp (List.getElem_mem _))
  · have e : o.getD a 0 = o.getD b 0 := e
    rw [g a ha, g b hb] at e
    have e1 := List.Nodup.idxOf_getElem nd a (by omega)
    have e2 := List.Nodup.idxOf_getElem nd b (by omega)
    rw [e] at e1
    omega
  · show o.getD 0 0 = 0
    simp [List.getD_eq_getElem?_getD, h0]
end
end PM
namespace LW
open PySem L2 Evl PySem.Spec PyProof.Rows DL LamX PM
abbrev wD (w : List Nat) : D := .tup (natL w)
abbrev iD (I : List (List Nat)) : D := .tup (I.map wD)
abbrev rD (I : List (List Nat)) : D := .ins "Rule" [("images", iD I)]
theorem at_img {I : List (List Nat)} {a : Nat} (ha : a < I.length) : atI (I.map wD) (a : Int) = some (wD (img I a)) := by
  apply DL.atI_nat
  simp -implicitDefEqProofs [img, ha]
theorem m_need {I : List (List Nat)} {s : Str} {P : Sl → Prop} {X : DX → Prop} (h : P (.fz (iD I))) : df_need_any [.fz (rD I), .fz (.str s)] P X := by
  simp -implicitDefEqProofs [df_need_any, dfOf, g_need_any_1, DL.up1, insIn, clsIn, isiL, isi1, tyD, h]
theorem m_needX {d : D} {s : Str} {P : Sl → Prop} {X : DX → Prop} (hd : tyD d ≠ none) (h : X ⟨"BadRule", [("what", .str s)]⟩) : df_need_any [.fz d, .fz (.str s)] P X := by
  cases d <;> simp -implicitDefEqProofs [tyD] at hd <;> simp -implicitDefEqProofs [df_need_any, dfOf, g_need_any_1, DL.up1, insIn, clsIn, isiL, isi1, tyD, h]
def kv (b : Nat) : D × D := (.int (b : Int), .bl true)
@[simp] theorem itms_kv (l : List Nat) : itms (.dct (l.map kv)) = some (l.map fun (b : Nat) => D.int (b : Int)) := by
  unfold itms
  have : ((l.map kv).all fun p => isKy p.1) = true := by rw [List.all_map]; simp -implicitDefEqProofs [kv, isKy, Function.comp_def]
  simp only [this, if_true]
  simp -implicitDefEqProofs [kv]
theorem has_kv (l : List Nat) (b : Nat) : hasD (l.map kv) (.inl (b : Int)) = decide (b ∈ l) := by
  induction l with
  | nil => rfl
  | cons c l ih =>
    have : (hasD ((c :: l).map kv) (.inl (b : Int))) = (decide ((c : Int) = b) || hasD (l.map kv) (.inl (b : Int))) := by simp -implicitDefEqProofs [hasD, kv, keyD]
    rw [this, ih]
    by_cases hc : c = b
    · subst hc; simp -implicitDefEqProofs
    · simp -implicitDefEqProofs [hc, Ne.symm hc]; omega
theorem put_kv (l : List Nat) (b : Nat) (h : b ∉ l) : putD (l.map kv) (.inl (b : Int)) (.bl true) = (l ++ [b]).map kv := by
  unfold putD
  rw [has_kv]
  simp -implicitDefEqProofs [h, kv, kD]
/-! ### met_by -/
structure Fit (I : List (List Nat)) : Prop where
  g : Good I
  m5 : I.length ≤ 5
  l8 : ∀ a, (img I a).length ≤ 8
theorem nd_len {m : Nat} {l : List Nat} (h : l.Nodup) (hl : ∀ b ∈ l, b < m) : l.length ≤ m := by
  have := List.Nodup.length_le_of_subset h (l₂ := List.range m) fun b hb => List.mem_range.mpr (hl b hb)
  rwa [List.length_range] at this
theorem natL_app (l r : List Nat) : natL (l ++ r) = natL l ++ natL r := by simp -implicitDefEqProofs [natL]
end LW
namespace LW
open PySem L2 Evl PySem.Spec PyProof.Rows DL LamX PM
theorem lcD_map {gg : GG} {gt : GT} {ge : GE} {vs : List Nat} {δ : DL.Env} {α : Type} (e : α → D) (p : α → Bool) (u : α → D) : ∀ {l : List α} {k : List D → DL.Env → Prop}, (∀ b ∈ l, ∀ k : Option D → DL.Env → Prop, k (if p b = true then some (u b) else none) δ → lcEl gg gt ge vs (e b) δ k) → k ((l.filter p).map u) δ → lcD gg gt ge vs (l.map e) δ k
  | [], k, _, h => h
  | b :: l, k, hs, h => by
    refine lcD_cons (hs b List.mem_cons_self _ ?_)
    cases hp : p b with
    | true =>
      rw [List.filter_cons, if_pos hp] at h
      exact lcD_map e p u (fun c hc => hs c (List.mem_cons_of_mem _ hc)) h
    | false =>
      rw [List.filter_cons, if_neg (by simp -implicitDefEqProofs [hp])] at h
      exact lcD_map e p u (fun c hc => hs c (List.mem_cons_of_mem _ hc)) h
/-- the same, the names may change within E -/
theorem lcD_mapE {gg : GG} {gt : GT} {ge : GE} {vs : List Nat} (E : DL.Env → Prop) {α : Type} (e : α → D) (p : α → Bool) (u : α → D) : ∀ {l : List α} {δ : DL.Env} {k : List D → DL.Env → Prop}, (∀ b ∈ l, ∀ δ, E δ → ∀ k : Option D → DL.Env → Prop, (∀ δ', E δ' → k (if p b = true then some (u b) else none) δ') → lcEl gg gt ge vs (e b) δ k) → E δ → (∀ δ', E δ' → k ((l.filter p).map u) δ') → lcD gg gt ge vs (l.map e) δ k
  | [], δ, k, _, h0, h => h δ h0
  | b :: l, δ, k, hs, h0, h => by
    refine lcD_cons (hs b List.mem_cons_self δ h0 _ fun δ' h1 => ?_)
    cases hp : p b with
    | true =>
      have h' : ∀ δ2, E δ2 → k (u b :: (l.filter p).map u) δ2 := fun δ2 h2 => by
        have := h δ2 h2
        rwa [List.filter_cons, if_pos hp] at this
      exact lcD_mapE E e p u (fun c hc => hs c (List.mem_cons_of_mem _ hc)) h1 h'
    | false =>
      have h' : ∀ δ2, E δ2 → k ((l.filter p).map u) δ2 := fun δ2 h2 => by
        have := h δ2 h2
        rwa [List.filter_cons, if_neg (by simp -implicitDefEqProofs [hp])] at this
      exact lcD_mapE E e p u (fun c hc => hs c (List.mem_cons_of_mem _ hc)) h1 h'
theorem srt_uniq : ∀ {l l' : List Int}, l.Pairwise (· < ·) → l'.Pairwise (· < ·) → (∀ i, i ∈ l ↔ i ∈ l') → l = l'
  | [], [], _, _, _ => rfl
  | [], b :: l', _, _, h => by have := (h b).mpr List.mem_cons_self; cases this
  | a :: l, [], _, _, h => by have := (h a).mp List.mem_cons_self; cases this
  | a :: l, b :: l', h1, h2, h => by
    have p1 := List.pairwise_cons.mp h1
    have p2 := List.pairwise_cons.mp h2
    have e : a = b := by
      have q1 := (h a).mp List.mem_cons_self
      have q2 := (h b).mpr List.mem_cons_self
      rcases List.mem_cons.mp q1 with z | z
      · exact z
      · rcases List.mem_cons.mp q2 with y | y
        · exact y.symm
        · have := p1.1 b y; have := p2.1 a z; omega
    subst e
    congr 1
    refine srt_uniq p1.2 p2.2 fun i => ?_
    constructor
    · intro hi
      rcases List.mem_cons.mp ((h i).mp (List.mem_cons_of_mem _ hi)) with z | z
      · subst z; have := p1.1 i hi; omega
      · exact z
    · intro hi
      rcases List.mem_cons.mp ((h i).mpr (List.mem_cons_of_mem _ hi)) with z | z
      · subst z; have := p2.1 i hi; omega
      · exact z
open Classical in
/-- the letters with a property, in order -/
noncomputable def cn (I : List (List Nat)) (Q : Nat → Prop) : List Nat := (List.range I.length).filter fun b => decide (Q b)
theorem cn_mem {I : List (List Nat)} {Q : Nat → Prop} {b : Nat} : b ∈ cn I Q ↔ b < I.length ∧ Q b := by simp -implicitDefEqProofs [cn]
theorem cn_srt (I : List (List Nat)) (Q : Nat → Prop) : ((cn I Q).map Int.ofNat).Pairwise (· < ·) := by
  rw [List.pairwise_map]
  refine List.Pairwise.imp (R := (· < ·)) (fun h => by simpa using h) ?_
  exact List.Pairwise.filter _ (List.pairwise_lt_range)
theorem cn_is {I : List (List Nat)} {Q : Nat → Prop} {l : List Int} (h : l.Pairwise (· < ·)) (hm : ∀ i, i ∈ l ↔ ∃ b : Nat, b < I.length ∧ Q b ∧ i = b) : intL l = natL (cn I Q) := by
  have : l = (cn I Q).map Int.ofNat := srt_uniq h (cn_srt I Q) fun i => by
    rw [hm]
    simp -implicitDefEqProofs [cn_mem]
    constructor
    · rintro ⟨b, h1, h2, rfl⟩; exact ⟨b, ⟨h1, h2⟩, rfl⟩
    · rintro ⟨b, ⟨h1, h2⟩, rfl⟩; exact ⟨b, h1, h2, rfl⟩
  rw [this]; simp -implicitDefEqProofs [intL, natL]
theorem cn_len (I : List (List Nat)) (Q : Nat → Prop) : (cn I Q).length ≤ I.length := by
  have := List.length_filter_le (fun b => @decide (Q b) (Classical.propDecidable _)) (List.range I.length)
  rw [List.length_range] at this
  exact this
theorem lt_of_le_nd {l : List Int} (h : l.Pairwise (· ≤ ·)) (n : l.Nodup) : l.Pairwise (· < ·) := by
  have := List.Pairwise.and h n
  exact this.imp fun ⟨a, b⟩ => by omega
theorem kv_fst (l : List Nat) : (l.map kv).map (·.1) = natL l := by simp -implicitDefEqProofs [kv, natL]
theorem kv_ky (l : List Nat) : ((l.map kv).all fun p => isKy p.1) = true := by
  rw [List.all_map]; simp -implicitDefEqProofs [kv, isKy, Function.comp_def]
theorem nd_cast {l : List Nat} (h : l.Nodup) : (l.map Int.ofNat).Nodup := by
  rw [List.nodup_iff_pairwise_ne, List.pairwise_map]
  exact h.imp fun h z => h (Int.ofNat.inj z)
theorem filter_cn {I : List (List Nat)} {Q : Nat → Prop} (p : Nat → Bool) : (cn I Q).filter p = cn I (fun b => Q b ∧ p b = true) := by
  simp only [cn, List.filter_filter]
  congr 1
  funext b
  by_cases h : p b = true <;> by_cases h2 : Q b <;> simp -implicitDefEqProofs [h, h2]
open Classical in
theorem rng_items (n : Nat) : rgD 0 n = (List.range n).map fun (b : Nat) => D.int (b : Int) := rg0_eq n
theorem natL_ne (l : List Nat) : (natL l).isEmpty = l.isEmpty := by cases l <;> rfl
theorem sum_int (l : List Nat) : (l.map Int.ofNat).sum = ((l.sum : Nat) : Int) := by
  induction l with
  | nil => rfl
  | cons a l ih => simp -implicitDefEqProofs [ih]
end LW
namespace LW
open PySem L2 Evl PySem.Spec PyProof.Rows DL LamX PM
/-! ### dicts of letters -/
theorem put_old (l : List Nat) (b : Nat) (h : b ∈ l) : putD (l.map kv) (.inl (b : Int)) (.bl true) = l.map kv := by
  unfold putD
  rw [has_kv]
  simp only [h, decide_true, if_true, List.map_map]
  apply List.map_congr_left
  intro c _
  simp only [Function.comp, kv]
  exact ite_self _
theorem merge_kv : ∀ (l acc : List Nat), acc.Nodup → ∃ l' : List Nat, mergeD (acc.map kv) (l.map fun (b : Nat) => ((.inl (b : Int) : Key), D.bl true)) = l'.map kv ∧ l'.Nodup ∧ ∀ b, b ∈ l' ↔ b ∈ acc ∨ b ∈ l
  | [], acc, h => ⟨acc, rfl, h, by simp⟩
  | c :: l, acc, h => by
    by_cases hc : c ∈ acc
    · obtain ⟨l', e, nd, m⟩ := merge_kv l acc h
      refine ⟨l', ?_, nd, fun b => ?_⟩
      · rw [← e]
        show mergeD (putD (acc.map kv) (.inl (c : Int)) (.bl true)) _ = _
        rw [put_old acc c hc]
      · rw [m]; simp -implicitDefEqProofs
        constructor
        · rintro (z | z)
          · exact .inl z
          · exact .inr (.inr z)
        · rintro (z | rfl | z)
          · exact .inl z
          · exact .inl hc
          · exact .inr z
    · obtain ⟨l', e, nd, m⟩ := merge_kv l (acc ++ [c]) (by rw [List.nodup_append]; exact ⟨h, by simp -implicitDefEqProofs, fun x hx y hy => by simp -implicitDefEqProofs at hy; subst hy; exact fun z => hc (z ▸ hx)⟩)
      refine ⟨l', ?_, nd, fun b => ?_⟩
      · rw [← e]
        show mergeD (putD (acc.map kv) (.inl (c : Int)) (.bl true)) _ = _
        rw [put_kv acc c hc]
      · rw [m]; simp -implicitDefEqProofs [or_assoc]
theorem pairs_kv (l : List Nat) : pairsD (l.map fun (b : Nat) => D.tup [.int (b : Int), .bl true]) = some (l.map fun (b : Nat) => ((.inl (b : Int) : Key), D.bl true)) := by
  induction l with
  | nil => rfl
  | cons b l ih => simp -implicitDefEqProofs [pairsD, ih]
theorem m_dict {l : List Nat} {k : Sl → Prop} (h : ∀ l' : List Nat, l'.Nodup → (∀ b, b ∈ l' ↔ b ∈ l) → k (.ow (.dct (l'.map kv)))) : nDict [.lst (l.map fun (b : Nat) => D.tup [.int (b : Int), .bl true])] k := by
  obtain ⟨l', e, nd, m⟩ := merge_kv l [] List.nodup_nil
  refine ⟨_, pairs_kv l, ?_⟩
  rw [show mergeD [] (l.map fun (b : Nat) => ((.inl (b : Int) : Key), D.bl true)) = l'.map kv from e]
  exact h l' nd fun b => by rw [m]; simp -implicitDefEqProofs
abbrev dK (l : List Nat) : D := .dct (l.map kv)
structure HereAt (I : List (List Nat)) (k : Nat) (ls : List (List Nat)) : Prop where
  len : ls.length = I.length
  at' : ∀ (a : Nat) (l : List Nat), ls[a]? = some l → l.Nodup ∧ ∀ b, b ∈ l ↔ b ∈ wd I (k + 1) a
def full (I : List (List Nat)) (k : Nat) : Prop := ∀ a, a < I.length → ∀ b, b < I.length → b ∈ wd I (k + 1) a
theorem len_full {m : Nat} {l : List Nat} (nd : l.Nodup) (hl : ∀ b ∈ l, b < m) : l.length = m ↔ ∀ b, b < m → b ∈ l := by
  constructor
  · intro e b hb
    apply Classical.byContradiction
    intro no
    have := nd_len (m := m) (l := b :: l) (List.nodup_cons.mpr ⟨no, nd⟩) fun c hc => by
      rcases List.mem_cons.mp hc with rfl | hc
      · exact hb
      · exact hl c hc
    simp -implicitDefEqProofs at this
    omega
  · intro h
    have h1 := nd_len nd hl
    have h2 := List.Nodup.length_le_of_subset (List.nodup_range (n := m)) (l₂ := l) fun b hb => h b (List.mem_range.mp hb)
    rw [List.length_range] at h2
    omega
open Classical in
theorem full_all {I : List (List Nat)} {k : Nat} {ls : List (List Nat)} (f : Fit I) (h : HereAt I k ls) : (ls.map fun l => decide (l.length = I.length)).all id = decide (full I k) := by
  rw [Bool.eq_iff_iff, decide_eq_true_eq]
  constructor
  · intro hl a ha b hb
    simp -implicitDefEqProofs at hl
    have hl' : a < ls.length := by rw [h.len]; exact ha
    obtain ⟨nd, mm⟩ := h.at' a _ (List.getElem?_eq_getElem hl')
    have := hl _ (List.getElem_mem hl')
    rw [len_full nd fun c hc => wd_lt f.g _ a ha c ((mm c).mp hc)] at this
    exact (mm b).mp (this b hb)
  · intro hf
    simp -implicitDefEqProofs
    intro l hl
    obtain ⟨a, hl', rfl⟩ := List.getElem_of_mem hl
    have ha : a < I.length := by rw [← h.len]; exact hl'
    obtain ⟨nd, mm⟩ := h.at' a _ (List.getElem?_eq_getElem hl')
    rw [len_full nd fun c hc => wd_lt f.g _ a ha c ((mm c).mp hc)]
    exact fun b hb => (mm b).mpr (hf a ha b hb)
theorem at_ix {α : Type} {l : List α} {f : α → D} {a : Nat} {d : D} (h : (l.map f)[a]? = some d) : ∃ x, l[a]? = some x ∧ d = f x := by
  rw [List.getElem?_map] at h
  cases e : l[a]? with
  | none => rw [e] at h; cases h
  | some x => rw [e] at h; cases h; exact ⟨x, rfl, rfl⟩
theorem img_get {I : List (List Nat)} {a : Nat} {w : List Nat} (h : I[a]? = some w) : a < I.length ∧ img I a = w := by
  have := (List.getElem?_eq_some_iff.mp h).1
  exact ⟨this, by simp -implicitDefEqProofs [img, h]⟩
theorem wD_inj {w w' : List Nat} (e : wD w = wD w') : w = w' := by
  have e := D.tup.inj e
  have := congrArg (List.map fun d => match d with | D.int i => i.toNat | _ => 0) e
  simpa [List.map_map, Function.comp_def] using this
/-- each element is related to its value, the names change within E -/
theorem lcD_relE {gg : GG} {gt : GT} {ge : GE} {vs : List Nat} (E : DL.Env → Prop) {α β : Type} (e : α → D) (up : β → D) (R : α → β → Prop) : ∀ {l : List α} {δ : DL.Env} {k : List D → DL.Env → Prop}, (∀ b ∈ l, ∀ δ, E δ → ∀ k : Option D → DL.Env → Prop, (∀ y δ', R b y → E δ' → k (some (up y)) δ') → lcEl gg gt ge vs (e b) δ k) → E δ →
    (∀ (ys : List β) δ', ys.length = l.length → (∀ (i : Nat) (b : α) (y : β), l[i]? = some b → ys[i]? = some y → R b y) → E δ' → k (ys.map up) δ') → lcD gg gt ge vs (l.map e) δ k
  | [], δ, k, _, h0, h => h [] δ rfl (fun _ _ _ z => by simp -implicitDefEqProofs at z) h0
  | b :: l, δ, k, hs, h0, h => by
    refine lcD_cons (hs b List.mem_cons_self δ h0 _ fun y δ' hy h1 => ?_)
    refine lcD_relE E e up R (fun c hc => hs c (List.mem_cons_of_mem _ hc)) h1 fun ys δ2 hl hys h2 => h (y :: ys) δ2 (by simp -implicitDefEqProofs [hl]) (fun i c z h1 h2 => ?_) h2
    cases i with
    | zero => simp -implicitDefEqProofs at h1 h2; subst h1; subst h2; exact hy
    | succ i => simp -implicitDefEqProofs at h1 h2; exact hys i c z h1 h2
theorem l8_mem {I : List (List Nat)} (f : Fit I) {w : List Nat} (hw : w ∈ I) : w.length ≤ 8 ∧ ∀ b ∈ w, b < I.length := by
  obtain ⟨a, ha, rfl⟩ := List.getElem_of_mem hw
  have h1 := f.l8 a
  have h2 := f.g.lt a ha
  simp -implicitDefEqProofs [img, ha] at h1 h2
  exact ⟨h1, h2⟩
theorem here_ix {I ls : List (List Nat)} {k a : Nat} (h : HereAt I k ls) (ha : a < I.length) : ∃ l, ls[a]? = some l ∧ atI (ls.map dK) (a : Int) = some (dK l) ∧ l.Nodup ∧ ∀ b, b ∈ l ↔ b ∈ wd I (k + 1) a := by
  have hl : a < ls.length := by rw [h.len]; exact ha
  refine ⟨_, List.getElem?_eq_getElem hl, DL.atI_nat (by rw [List.getElem?_map, List.getElem?_eq_getElem hl]; rfl), h.at' a _ (List.getElem?_eq_getElem hl)⟩
open Classical in
noncomputable def prim (I : List (List Nat)) : Bool := decide (∃ k, k ≤ I.length * I.length ∧ full I k)
open Classical in
theorem m_prim {I : List (List Nat)} {P : Sl → Prop} {X : DX → Prop} (f : Fit I) (h : P (.fz (.bl (prim I)))) : df_is_primitive_by [.fz (iD I)] P X := by
  unfold prim at h
  have hm := f.m5
  have hI : I.length ≤ 100000 := by omega
  have hmm : I.length * I.length ≤ 5 * 5 := Nat.mul_le_mul hm hm
  have em : ((I.length : Int) * (I.length : Int)).toNat = I.length * I.length := by rw [← Int.natCast_mul]; exact Int.toNat_natCast _
  have em2 : -1000000000 ≤ (I.length : Int) * (I.length : Int) ∧ (I.length : Int) * (I.length : Int) ≤ 1000000000 := by rw [← Int.natCast_mul]; omega
  simp -implicitDefEqProofs [df_is_primitive_by, dfOf]
  simp only [g_is_primitive_by_5]
  simp -implicitDefEqProofs [hI]
  refine lcD_relE (fun δ => δ = [some (.fz (iD I)), some (.fz (.int (I.length : Int))), none, none, none, none, none]) wD dK (fun w l => l.Nodup ∧ ∀ b, b ∈ l ↔ b ∈ w) ?_ rfl ?_
  · rintro w hw δ rfl k hk
    have hwl := (l8_mem f hw).1
    simp -implicitDefEqProofs
    refine ⟨by omega, ?_⟩
    refine lcD_map (fun b : Nat => D.int (b : Int)) (fun _ => true) (fun b => D.tup [.int (b : Int), .bl true]) (fun b hb k hk => ?_) ?_
    · simpa using hk
    · rw [List.filter_eq_self.mpr (by simp -implicitDefEqProofs)]
      simp only [v_oE, v_vw2, v_aNil, v_rsls0, v_rsls1, v_rsl1]
      refine m_dict fun l' nd m => ?_
      simp -implicitDefEqProofs
      exact hk l' _ ⟨nd, m⟩ rfl
  rintro ys δ' hl hr rfl
  have h0 : HereAt I 0 ys := ⟨hl, fun a l ha => by
    have ha' : a < I.length := by rw [← hl]; exact (List.getElem?_eq_some_iff.mp ha).1
    obtain ⟨nd, m⟩ := hr a _ l (List.getElem?_eq_getElem ha') ha
    refine ⟨nd, fun b => ?_⟩
    rw [m, wd_one]
    simp -implicitDefEqProofs [img, ha']⟩
  simp -implicitDefEqProofs [g_is_primitive_by_4, small_nat I.length (by omega), em, em2, rng_items]
  have all : ∀ (k : Nat) (ls : List (List Nat)) (s : Sl) (o3 o4 o6 : Option Sl) (K : Sl → DL.Env → Prop), HereAt I k ls → (s = Sl.ow (.lst (ls.map dK)) ∨ s = .fz (.lst (ls.map dK))) →
      K (.fz (.bl (decide (full I k)))) [some (.fz (iD I)), some (.fz (.int (I.length : Int))), some (.fz (.lst (ls.map dK))), o3, o4, none, o6] →
      (eCa nAll (aCons (oE (eLc (iE (eVar 2)) (gNm 5) tYesD (eBin dEq (oE (eCa nLen (aCons (oB 5) aNil))) (oB 1)) [5])) aNil)) [some (.fz (iD I)), some (.fz (.int (I.length : Int))), some s, o3, o4, none, o6] K X := fun k ls s o3 o4 o6 K hh hs hK => by
    have hll : ls.length ≤ 100000 := by rw [hh.len]; exact hI
    rcases hs with rfl | rfl
    all_goals
      simp -implicitDefEqProofs [hll]
      refine lcD_map dK (fun _ => true) (fun l => D.bl (decide (l.length = I.length))) (fun l hl k hk => ?_) ?_
      · simp -implicitDefEqProofs [u_eq]
        have : decide ((l.length : Int) = (I.length : Int)) = decide (l.length = I.length) := by rw [decide_eq_decide]; omega
        rw [this]
        exact hk
      · rw [List.filter_eq_self.mpr (by simp -implicitDefEqProofs)]
        simp only [v_oE, v_vw2, v_aNil, v_rsls0, v_rsls1, v_rsl1]
        refine ⟨_, blsD_map _ _, ?_⟩
        rw [full_all f hh]
        exact hK
  have next : ∀ (k : Nat) (ls : List (List Nat)) (s : Sl) (o3 : Option Sl) (K : Sl → DL.Env → Prop), HereAt I k ls → (s = Sl.ow (.lst (ls.map dK)) ∨ s = .fz (.lst (ls.map dK))) →
      (∀ ls' : List (List Nat), HereAt I (k + 1) ls' → K (.ow (.lst (ls'.map dK))) [some (.fz (iD I)), some (.fz (.int (I.length : Int))), some s, o3, none, none, none]) →
      (eLc (iE (eVar 0)) (gNm 4) tYesD (eCa nDict (aCons (oE (eLc2 (iE (eVar 4)) (gNm 5) tYesD (iE (eBin dIx (oB 2) (oB 5))) (gNm 6) tYesD (eTup (aCons (oE (eVar 6)) (aCons (oE (eC (.bl true))) aNil))) [5, 6] [6])) aNil)) [4]) [some (.fz (iD I)), some (.fz (.int (I.length : Int))), some s, o3, none, none, none] K X := fun k ls s o3 K hh hs hK => by
    simp -implicitDefEqProofs [hI]
    refine lcD_relE (fun δ => δ = [some (.fz (iD I)), some (.fz (.int (I.length : Int))), some s, o3, none, none, none]) wD dK (fun w l => l.Nodup ∧ ∀ b, b ∈ l ↔ ∃ c ∈ w, b ∈ wd I (k + 1) c) ?_ rfl ?_
    · rintro w hw δ rfl k2 hk
      have hwl := l8_mem f hw
      have cat : ∀ (w : List Nat) (n : Nat) (w0 : List Nat) (K2 : List D → DL.Env → Prop), n + 8 * w.length ≤ 100000 → (∀ b ∈ w, b < I.length) → K2 ((w.flatMap fun c => ls.getD c []).map fun (b : Nat) => D.tup [.int (b : Int), .bl true]) [some (.fz (iD I)), some (.fz (.int (I.length : Int))), some s, o3, some (.fz (wD w0)), none, none] →
          lcD2 (gNm 5) tYesD (iE (eBin dIx (oB 2) (oB 5))) (gNm 6) tYesD (eTup (aCons (oE (eVar 6)) (aCons (oE (eC (.bl true))) aNil))) [5, 6] [6] (w.map fun (b : Nat) => D.int (b : Int)) n [some (.fz (iD I)), some (.fz (.int (I.length : Int))), some s, o3, some (.fz (wD w0)), none, none] K2 := fun w => by
        induction w with
        | nil => intro n w0 K2 _ _ h; exact h
        | cons c w ih =>
          intro n w0 K2 hn hb hK2
          obtain ⟨l, hl, hat, nd, hm2⟩ := here_ix hh (hb c List.mem_cons_self)
          have hcl := nd_len nd fun b hb' => wd_lt f.g _ c (hb c List.mem_cons_self) b ((hm2 b).mp hb')
          simp -implicitDefEqProofs at hn
          refine lcD2_cons ?_
          rcases hs with rfl | rfl
          all_goals
            simp -implicitDefEqProofs
            refine ⟨_, hat, ?_⟩
            simp -implicitDefEqProofs
            refine ⟨by omega, ?_⟩
            refine lcD_map (fun b : Nat => D.int (b : Int)) (fun _ => true) (fun b => D.tup [.int (b : Int), .bl true]) (fun b hb k hk => ?_) ?_
            · simpa using hk
            · rw [List.filter_eq_self.mpr (by simp -implicitDefEqProofs)]
              simp -implicitDefEqProofs
              refine ih _ _ _ ?_ (fun b hb' => hb b (List.mem_cons_of_mem _ hb')) ?_
              · first | omega | (simp -implicitDefEqProofs; omega)
              simp -implicitDefEqProofs [hl] at hK2
              exact hK2
      simp -implicitDefEqProofs
      refine cat w 0 w _ (by omega) hwl.2 ?_
      simp only [v_oE, v_vw2, v_aNil, v_rsls0, v_rsls1, v_rsl1]
      refine m_dict fun l' nd m => ?_
      have hk' := hk l' _ ⟨nd, fun b => by
        rw [m]
        simp -implicitDefEqProofs [List.mem_flatMap]
        constructor
        · rintro ⟨c, hc, hb⟩
          obtain ⟨l, hl, _, _, hm2⟩ := here_ix hh (hwl.2 c hc)
          simp -implicitDefEqProofs [hl] at hb
          exact ⟨c, hc, (hm2 b).mp hb⟩
        · rintro ⟨c, hc, hb⟩
          obtain ⟨l, hl, _, _, hm2⟩ := here_ix hh (hwl.2 c hc)
          exact ⟨c, hc, by simp -implicitDefEqProofs [hl]; exact (hm2 b).mpr hb⟩⟩ rfl
      simpa using hk'
    · rintro ys δ' hl hr rfl
      refine hK ys ⟨hl, fun a l ha => ?_⟩
      have ha' : a < I.length := by rw [← hl]; exact (List.getElem?_eq_some_iff.mp ha).1
      obtain ⟨nd, m⟩ := hr a _ l (List.getElem?_eq_getElem ha') ha
      refine ⟨nd, fun b => ?_⟩
      rw [m, show k + 1 + 1 = (k + 1) + 1 from rfl]
      simp -implicitDefEqProofs [wd, img, ha', List.mem_flatMap]
  refine forD_inv (fun i δ => ∃ (ls : List (List Nat)) (o3 : Option Sl), HereAt I i ls ∧ (∀ j, j < i → ¬ full I j) ∧ penA o3 ∧ δ = [some (.fz (iD I)), some (.fz (.int (I.length : Int))), some (.ow (.lst (ls.map dK))), o3, none, none, none]) 0 ⟨ys, none, h0, fun j hj => by omega, trivial, rfl⟩ ?_ ?_
  · rintro j d δ N hd ⟨ls, o3, hh, hn, hp, rfl⟩ hN
    obtain ⟨b, hb, rfl⟩ := at_ix hd
    have hj := (List.getElem?_eq_some_iff.mp hb).1
    rw [List.length_range] at hj
    rw [Nat.zero_add] at hh hn hN
    simp -implicitDefEqProofs [hp]
    simp only [g_is_primitive_by_3, v_seq, v_if, v_gTr]
    refine all _ ls _ _ _ _ _ hh (.inl rfl) ?_
    simp -implicitDefEqProofs
    by_cases hf : full I j
    · simp -implicitDefEqProofs [hf]
      have : (∃ k, k ≤ I.length * I.length ∧ full I k) := ⟨j, by omega, hf⟩
      simpa [this] using h
    · simp -implicitDefEqProofs [hf]
      simp only [g_is_primitive_by_2, v_seq, v_set]
      refine next _ ls _ _ _ hh (.inr rfl) fun ls' h' => ?_
      simp -implicitDefEqProofs
      refine hN _ ⟨ls', _, h', fun j2 hj2 => ?_, ?_, rfl⟩
      · by_cases e : j2 = j
        · subst e; exact hf
        · exact hn j2 (by omega)
      · exact trivial
  · rintro δ' ⟨ls, o3, hh, hn, hp, rfl⟩
    simp only [g_is_primitive_by_1, v_seq, v_ret]
    refine all _ ls _ _ _ _ _ hh (.inl rfl) ?_
    have e : (∃ k, k ≤ I.length * I.length ∧ full I k) ↔ full I (0 + (List.map (fun (b : Nat) => D.int (b : Int)) (List.range (I.length * I.length))).length) := by
      simp only [List.length_map, List.length_range, Nat.zero_add] at hn ⊢
      constructor
      · rintro ⟨k, hk, hf⟩
        rcases Nat.lt_or_eq_of_le hk with q | q
        · exact (hn k q hf).elim
        · rw [← q]; exact hf
      · intro hf; exact ⟨_, Nat.le_refl _, hf⟩
    simp only [e] at h
    exact h
end LW
namespace LW
open PySem L2 Evl PySem.Spec PyProof.Rows DL LamX PM
/-- sorted(set(..)) of letters -/
theorem m_sset {I : List (List Nat)} {x : D} {l : List Nat} {Q : Nat → Prop} {k : Sl → Prop} (hx : seqD x = some (natL l)) (hl : l.length < 64) (hq : ∀ b, b ∈ l ↔ b < I.length ∧ Q b) (h : k (.ow (.lst (natL (cn I Q))))) : nSSet [x] k := by
  refine ⟨_, _, hx, intsD_nats _, by simpa using hl, fun ns' hp hm => ?_⟩
  have e := cn_is (I := I) (Q := Q) hp fun i => by
    rw [hm]
    simp only [List.mem_map]
    constructor
    · rintro ⟨b, hb, rfl⟩
      obtain ⟨h1, h2⟩ := (hq b).mp hb
      exact ⟨b, h1, h2, rfl⟩
    · rintro ⟨b, h1, h2, rfl⟩
      exact ⟨b, (hq b).mpr ⟨h1, h2⟩, rfl⟩
  rw [show ns'.map D.int = natL (cn I Q) from e]
  exact h
theorem m_led_lot {I : List (List Nat)} {l : List Nat} {P : Sl → Prop} {X : DX → Prop} (f : Fit I) (hl : l.length ≤ 5) (hm : ∀ b ∈ l, b < I.length) (h : P (.ow (.lst (natL (cn I fun b => ∃ c ∈ l, b ∈ img I c))))) : df__law_led_lot [.fz (iD I), .fz (.lst (natL l))] P X := by
  simp -implicitDefEqProofs [df__law_led_lot, dfOf]
  simp only [g__law_led_lot_3]
  simp -implicitDefEqProofs
  have fl : ∀ n, (((l.take n).flatMap (img I)).length ≤ 8 * n) := fun n => by
    rw [List.length_flatMap]
    have : ∀ l : List Nat, (l.map fun a => (img I a).length).sum ≤ 8 * l.length := fun l => by
      induction l with
      | nil => simp -implicitDefEqProofs
      | cons a l ih => have := f.l8 a; simp -implicitDefEqProofs; omega
    have h1 := this (l.take n)
    have h2 : (l.take n).length ≤ n := by rw [List.length_take]; omega
    omega
  refine forD_inv (fun i δ => ∃ o3 : Option Sl, penA o3 ∧ δ = [some (.fz (iD I)), some (.fz (.lst (natL l))), some (.ow (.lst (natL ((l.take i).flatMap (img I))))), o3]) 0 ⟨none, trivial, by simp⟩ ?_ ?_
  · rintro j d δ N hd ⟨o3, hp, rfl⟩ hN
    obtain ⟨b, hb, rfl⟩ := at_ix hd
    have hj := (List.getElem?_eq_some_iff.mp hb).1
    have hbm := hm b (List.mem_of_getElem? hb)
    rw [Nat.zero_add] at hN ⊢
    simp -implicitDefEqProofs [hp]
    simp only [g__law_led_lot_2]
    simp -implicitDefEqProofs
    refine ⟨_, at_img hbm, ?_⟩
    have h1 := fl j
    have h2 := f.l8 b
    have h3 : (l.take (j + 1)).flatMap (img I) = (l.take j).flatMap (img I) ++ img I b := by
      rw [List.take_add_one, List.flatMap_append, hb]
      simp -implicitDefEqProofs
    simp -implicitDefEqProofs
    refine ⟨by simp -implicitDefEqProofs at h1; omega, hN _ ⟨some (.fz (.int (b : Int))), trivial, ?_⟩⟩
    rw [h3]
    simp -implicitDefEqProofs
  · rintro δ' ⟨o3, hp, rfl⟩
    simp only [g__law_led_lot_1, v_seq, v_ret, v_ca, v_aCons, v_aNil, v_oB, List.getElem?_cons_succ, List.getElem?_cons_zero, v_oB1, v_rsls1, v_rsls0, v_rsl2, v_rsl4]
    have e : (List.take (0 + (l.map fun (b : Nat) => D.int (b : Int)).length) l) = l := by simp -implicitDefEqProofs
    rw [e]
    refine m_sset (I := I) rfl ?_ (fun b => ?_) h
    · have := fl l.length
      rw [List.take_length] at this
      omega
    · simp -implicitDefEqProofs [List.mem_flatMap]
      intro c hc hb
      exact f.g.lt c (hm c hc) b hb
theorem map_img {α : Type} (I : List (List Nat)) (g : List Nat → α) : I.map g = (List.range I.length).map fun a => g (img I a) := by
  apply List.ext_getElem
  · simp -implicitDefEqProofs
  · intro i h1 h2
    simp -implicitDefEqProofs at h1
    simp -implicitDefEqProofs [img, h1]
noncomputable abbrev cw (I : List (List Nat)) (k a : Nat) : List Nat := cn I fun b => b ∈ wd I (k + 1) a
theorem cw_full {I : List (List Nat)} {k a : Nat} : (cw I k a).length = I.length ↔ ∀ b, b < I.length → b ∈ wd I (k + 1) a := by
  rw [len_full (m := I.length) (l := cw I k a) ((List.nodup_range).filter _) fun b hb => (cn_mem.mp hb).1]
  simp -implicitDefEqProofs [cn_mem]
  constructor
  · intro h b hb; exact (h b hb).2
  · intro h b hb; exact ⟨hb, h b hb⟩
noncomputable abbrev lots (I : List (List Nat)) (k : Nat) : List D := (List.range I.length).map fun a => D.lst (natL (cw I k a))
open Classical in
theorem m_law_prim {I : List (List Nat)} {P : Sl → Prop} {X : DX → Prop} (f : Fit I) (h : P (.fz (.bl (prim I)))) : df__law_is_primitive [.fz (iD I)] P X := by
  unfold prim at h
  have hm := f.m5
  have hI : I.length ≤ 100000 := by omega
  have hmm : I.length * I.length ≤ 5 * 5 := Nat.mul_le_mul hm hm
  have em : ((I.length : Int) * (I.length : Int) + 1).toNat = I.length * I.length + 1 := by rw [← Int.natCast_mul]; omega
  have em2 : -1000000000 ≤ (I.length : Int) * (I.length : Int) + 1 ∧ (I.length : Int) * (I.length : Int) + 1 ≤ 1000000000 := by rw [← Int.natCast_mul]; omega
  simp -implicitDefEqProofs [df__law_is_primitive, dfOf]
  simp only [g__law_is_primitive_5]
  simp -implicitDefEqProofs [hI]
  rw [map_img I wD]
  refine lcD_map (fun a => wD (img I a)) (fun _ => true) (fun a => D.lst (natL (cw I 0 a))) (fun a ha k hk => ?_) ?_
  · have ha' := List.mem_range.mp ha
    simp only [v_el, v_gNm, v_np0, v_np1, v_npa0, true_and, List.set_cons_succ, List.set_cons_zero, v_yes, if_true, v_ca, v_aCons, v_oB, List.getElem?_cons_succ, List.getElem?_cons_zero, v_oB1, v_aNil, v_rsls1, v_rsl2, v_rsl3, v_rsls0]
    refine m_sset (I := I) (l := img I a) (Q := fun b => b ∈ wd I (0 + 1) a) rfl (by have := f.l8 a; omega) (fun b => ?_) ?_
    · rw [show (0 + 1 : Nat) = 1 from rfl, wd_one]
      exact ⟨fun hb => ⟨f.g.lt a ha' b hb, hb⟩, fun hb => hb.2⟩
    · simpa using hk
  rw [List.filter_eq_self.mpr (by simp -implicitDefEqProofs)]
  simp -implicitDefEqProofs [g__law_is_primitive_4, small_nat I.length (by omega), em, em2, rng_items]
  have test : ∀ (k : Nat) (s : Sl) (o3 o4 : Option Sl) (K : Bool → DL.Env → Prop), (s = Sl.ow (.lst (lots I k)) ∨ s = .fz (.lst (lots I k))) →
      K (decide (full I k)) [some (.fz (iD I)), some (.fz (.int (I.length : Int))), some (.fz (.lst (lots I k))), o3, o4, none] →
      (gV (eBin dEq (oE (eLc (iE (eVar 2)) (gNm 5) (gV (eBin dNe (oE (eCa nLen (aCons (oB 5) aNil))) (oB 1))) (eC (.int 1)) [5])) (oE (eLst aNil)))) [some (.fz (iD I)), some (.fz (.int (I.length : Int))), some s, o3, o4, none] K X := fun k s o3 o4 K hs hK => by
    rcases hs with rfl | rfl
    all_goals
      simp -implicitDefEqProofs [hI]
      refine lcD_map (fun a => D.lst (natL (cw I k a))) (fun a => decide ((cw I k a).length ≠ I.length)) (fun _ => D.int 1) (fun a ha k2 hk => ?_) ?_
      · simp -implicitDefEqProofs [u_ne]
        by_cases e : (cw I k a).length = I.length
        · simpa [e] using hk
        · have e2 : ¬ ((cw I k a).length : Int) = (I.length : Int) := by omega
          simpa [e, e2] using hk
      · simp -implicitDefEqProofs
        have e1 : (((List.range I.length).filter fun a => !decide ((cw I k a).length = I.length)).map fun _ => D.int 1) = intL (((List.range I.length).filter fun a => !decide ((cw I k a).length = I.length)).map fun _ => (1 : Int)) := by simp -implicitDefEqProofs [intL]
        rw [u_eq, e1]
        refine ⟨ok_ints _, ok_nil, ?_⟩
        rw [eqv_nil]
        have e2 : (intL (((List.range I.length).filter fun a => !decide ((cw I k a).length = I.length)).map fun _ => (1 : Int))).isEmpty = decide (full I k) := by
          rw [Bool.eq_iff_iff, decide_eq_true_eq]
          simp -implicitDefEqProofs [intL, List.filter_eq_nil_iff, full]
          constructor
          · intro h a ha; exact cw_full.mp (h a ha)
          · intro h a ha; exact cw_full.mpr (h a ha)
        rw [e2]
        exact hK
  have next : ∀ (k : Nat) (s : Sl) (o3 : Option Sl) (K : Sl → DL.Env → Prop), (s = Sl.ow (.lst (lots I k)) ∨ s = .fz (.lst (lots I k))) →
      K (.ow (.lst (lots I (k + 1)))) [some (.fz (iD I)), some (.fz (.int (I.length : Int))), some (.fz (.lst (lots I k))), o3, none, none] →
      (eLc (iE (eVar 2)) (gNm 5) tYesD (eCallN 2 df__law_led_lot (aCons (oE (eVar 0)) (aCons (oE (eVar 5)) aNil))) [5]) [some (.fz (iD I)), some (.fz (.int (I.length : Int))), some s, o3, none, none] K X := fun k s o3 K hs hK => by
    rcases hs with rfl | rfl
    all_goals
      simp -implicitDefEqProofs [hI]
      refine lcD_map (fun a => D.lst (natL (cw I k a))) (fun _ => true) (fun a => D.lst (natL (cw I (k + 1) a))) (fun a ha k2 hk => ?_) ?_
      · have ha' := List.mem_range.mp ha
        simp -implicitDefEqProofs
        refine m_led_lot f (Nat.le_trans (cn_len I _) hm) (fun b hb => (cn_mem.mp hb).1) ?_
        have e : (cn I fun b => ∃ c ∈ cw I k a, b ∈ img I c) = cw I (k + 1) a := by
          congr 1
          funext b
          apply propext
          rw [wd_add 1 (k + 1) a]
          simp -implicitDefEqProofs [cn_mem, List.mem_flatMap, wd_one]
          constructor
          · rintro ⟨c, ⟨_, h1⟩, h2⟩; exact ⟨c, h1, h2⟩
          · rintro ⟨c, h1, h2⟩; exact ⟨c, ⟨wd_lt f.g _ a ha' c h1, h1⟩, h2⟩
        rw [e]
        simpa using hk
      · rw [List.filter_eq_self.mpr (by simp -implicitDefEqProofs)]
        exact hK
  refine forD_inv (fun i δ => ∃ (o3 : Option Sl), (∀ j, j < i → ¬ full I j) ∧ penA o3 ∧ δ = [some (.fz (iD I)), some (.fz (.int (I.length : Int))), some (.ow (.lst (lots I i))), o3, none, none]) 0 ⟨none, fun j hj => by omega, trivial, rfl⟩ ?_ ?_
  · rintro j d δ N hd ⟨o3, hn, hp, rfl⟩ hN
    obtain ⟨b, hb, rfl⟩ := at_ix hd
    have hj := (List.getElem?_eq_some_iff.mp hb).1
    rw [List.length_range] at hj
    rw [Nat.zero_add] at hn hN ⊢
    simp -implicitDefEqProofs [hp]
    simp only [g__law_is_primitive_3, v_seq, v_if]
    refine test j _ _ _ _ (.inl rfl) ?_
    by_cases hf : full I j
    · simp -implicitDefEqProofs [hf]
      have : (∃ k, k ≤ I.length * I.length ∧ full I k) := ⟨j, by omega, hf⟩
      simpa [this] using h
    · simp -implicitDefEqProofs [hf]
      simp only [g__law_is_primitive_2, v_seq, v_set]
      refine next j _ _ _ (.inr rfl) ?_
      simp -implicitDefEqProofs
      refine hN _ ⟨some (.fz (.int (b : Int))), fun j2 hj2 => ?_, trivial, rfl⟩
      by_cases e : j2 = j
      · subst e; exact hf
      · exact hn j2 (by omega)
  · rintro δ' ⟨o3, hn, hp, rfl⟩
    simp only [g__law_is_primitive_1, v_seq, v_ret]
    simp -implicitDefEqProofs
    have e : ¬ (∃ k, k ≤ I.length * I.length ∧ full I k) := by
      rintro ⟨k, hk, hf⟩
      exact hn k (by simp -implicitDefEqProofs; omega) hf
    simpa [e] using h
end LW
namespace LW
open PySem L2 Evl PySem.Spec PyProof.Rows DL LamX PM
theorem m_is_int {k : Nat} {i : Int} {P : Sl → Prop} {X : DX → Prop} (h : P (.fz (.bl true))) : df__law_is_n (k + 1) [.fz (.int i), .fz (.int i)] P X := by
  simp -implicitDefEqProofs [df__law_is_n, dfOf, DL.up1, insIn, clsIn, isiL, isi1, tyD, u_eq, h]
theorem m_is_tup {l : List Nat} {P : Sl → Prop} {X : DX → Prop} (hl : l.length ≤ 1000) (h : P (.fz (.bl true))) : df__law_is [.fz (.tup (natL l)), .fz (.tup (natL l))] P X := by
  have e0 : PyData.eqv (D.int (l.length : Int)).py (D.int (l.length : Int)).py = true := by simp -implicitDefEqProofs
  simp -implicitDefEqProofs [df__law_is, df__law_is_n, dfOf, DL.up1, insIn, clsIn, isiL, isi1, tyD, u_ne, rng_items]
  refine ⟨by omega, by omega, ?_⟩
  refine lcD_map (fun b : Nat => D.int (b : Int)) (fun _ => false) (fun b => D.int (b : Int)) (fun b hb k hk => ?_) ?_
  · have hb' := List.mem_range.mp hb
    have e1 : atI (natL l) (b : Int) = some (.int ((l[b]'hb' : Nat) : Int)) := DL.atI_nat (by simp -implicitDefEqProofs [natL, hb'])
    simp -implicitDefEqProofs
    refine ⟨_, e1, ?_⟩
    try simp -implicitDefEqProofs
    refine ⟨_, e1, ?_⟩
    try simp -implicitDefEqProofs
    refine m_is_int (k := 4) ?_
    try simp -implicitDefEqProofs
    simpa using hk
  · have e : (List.range l.length).filter (fun _ => false) = [] := List.filter_eq_nil_iff.mpr (by simp -implicitDefEqProofs)
    rw [e]
    simp -implicitDefEqProofs [u_eq, h]
structure FitR (I : List (List Nat)) : Prop where
  f : Fit I
  tot : (I.map List.length).sum ≤ 24
  h2 : 2 ≤ (img I 0).length
  h0 : (img I 0)[0]? = some 0
theorem m_is_word {m : Nat} {w : List Nat} {P : Sl → Prop} {X : DX → Prop} (hw : w.length ≤ 8) (hm : ∀ b ∈ w, b < m) (h : P (.fz (.bl true))) : df_is_word [.fz (wD w), .fz (.int (m : Int))] P X := by
  simp -implicitDefEqProofs [df_is_word, df_is_indexes, df_is_list, dfOf, DL.up1, insIn, clsIn, isiL, isi1, tyD]
  refine ⟨by omega, ?_⟩
  refine lcD_map (fun b : Nat => D.int (b : Int)) (fun _ => true) (fun b => D.bl true) (fun b hb k hk => ?_) ?_
  · have := hm b hb
    have e : (b : Int) < (m : Int) := by omega
    simp -implicitDefEqProofs [df_is_index, df_is_integer, dfOf, DL.up1, insIn, clsIn, isiL, isi1, tyD, e]
    simpa using hk
  · rw [List.filter_eq_self.mpr (by simp -implicitDefEqProofs)]
    simp only [v_oE, v_vw2, v_aNil, v_rsls0, v_rsls1, v_rsl1]
    refine ⟨_, blsD_map _ _, ?_⟩
    have e : (w.map fun b => true).all id = true := by simp -implicitDefEqProofs
    have e4 : (w.length : Int) ≤ 4000 := by omega
    simp -implicitDefEqProofs [e4]
    exact h
theorem m_as_int {k : Nat} {i : Int} {P : Sl → Prop} {X : DX → Prop} (h : P (.fz (.int i))) : df_as_tuples_n (k + 1) [.fz (.int i)] P X := by
  simp -implicitDefEqProofs [df_as_tuples_n, dfOf, DL.up1, insIn, clsIn, isiL, isi1, tyD, h]
theorem as_succ (k : Nat) : df_as_tuples_n (k + 1) = dfOf 1 (g_as_tuples (df_as_tuples_n k)) := by rw [df_as_tuples_n]
theorem m_as_w {k : Nat} {w : List Nat} {P : Sl → Prop} {X : DX → Prop} (hw : w.length ≤ 1000) (h : P (.fz (wD w))) : df_as_tuples_n (k + 2) [.fz (wD w)] P X := by
  rw [as_succ]
  simp -implicitDefEqProofs [dfOf, DL.up1, insIn, clsIn, isiL, isi1, tyD]
  refine ⟨by omega, ?_⟩
  refine lcD_map (fun b : Nat => D.int (b : Int)) (fun _ => true) (fun b => D.int (b : Int)) (fun b hb k2 hk => ?_) ?_
  · simp -implicitDefEqProofs
    refine m_as_int ?_
    simpa using hk
  · rw [List.filter_eq_self.mpr (by simp -implicitDefEqProofs)]
    simp -implicitDefEqProofs
    exact h
theorem m_as {I : List (List Nat)} {P : Sl → Prop} {X : DX → Prop} (f : Fit I) (h : P (.fz (iD I))) : df_as_tuples [.fz (iD I)] P X := by
  have hm := f.m5
  unfold df_as_tuples
  rw [as_succ]
  simp -implicitDefEqProofs [dfOf, DL.up1, insIn, clsIn, isiL, isi1, tyD]
  refine ⟨by omega, ?_⟩
  refine lcD_map wD (fun _ => true) wD (fun w hw k2 hk => ?_) ?_
  · have := (l8_mem f hw).1
    simp -implicitDefEqProofs
    refine m_as_w (k := 3) (by omega) ?_
    simpa using hk
  · rw [List.filter_eq_self.mpr (by simp -implicitDefEqProofs)]
    simp -implicitDefEqProofs
    exact h
theorem m_Rule {I : List (List Nat)} {P : Sl → Prop} {X : DX → Prop} (r : FitR I) (h : P (.fz (rD I))) : df_Rule [.fz (iD I)] P X := by
  have f := r.f
  have hm := f.m5
  have hp := f.g.pos
  have hI : I.length ≤ 100000 := by omega
  have e1 : (1 : Int) ≤ (I.length : Int) := by omega
  have e5 : (I.length : Int) ≤ 5 := by omega
  simp -implicitDefEqProofs [df_Rule, dfI, df_are_images, df_is_list, dfOf, DL.up1, insIn, clsIn, isiL, isi1, tyD, e1, e5]
  simp only [g_are_images_3]
  simp -implicitDefEqProofs
  simp only [g_are_images_2]
  simp -implicitDefEqProofs [hI]
  refine lcD_map wD (fun _ => true) (fun _ => D.bl true) (fun w hw k2 hk => ?_) ?_
  · have hw8 := l8_mem f hw
    have hne : w ≠ [] := by
      obtain ⟨a, ha, rfl⟩ := List.getElem_of_mem hw
      have := f.g.ne a ha
      simpa [img, ha] using this
    have h1 : 1 ≤ (w.length : Int) := by have := List.length_pos_iff.mpr hne; omega
    have h2 : (w.length : Int) ≤ 8 := by omega
    simp -implicitDefEqProofs
    refine m_is_word hw8.1 hw8.2 ?_
    simp -implicitDefEqProofs [h1, h2]
    simpa using hk
  · rw [List.filter_eq_self.mpr (by simp -implicitDefEqProofs)]
    simp only [v_oE, v_vw2, v_aNil, v_rsls0, v_rsls1, v_rsl1]
    refine ⟨_, blsD_map _ _, ?_⟩
    have e : (I.map fun b => true).all id = true := by simp -implicitDefEqProofs
    rw [e]
    simp -implicitDefEqProofs
    simp only [g_are_images_1]
    simp -implicitDefEqProofs [hI, -o_sum]
    refine lcD_map wD (fun _ => true) (fun w => D.int (w.length : Int)) (fun w hw k2 hk => ?_) ?_
    · simp -implicitDefEqProofs
      simpa using hk
    · rw [List.filter_eq_self.mpr (by simp -implicitDefEqProofs)]
      simp only [v_oE, v_vw2, v_aNil, v_rsls0, v_rsls1, v_rsl1]
      have e1 : (I.map fun w => D.int (w.length : Int)) = natL (I.map List.length) := by simp -implicitDefEqProofs [natL, Function.comp_def]
      rw [e1]
      refine ⟨_, intsD_nats _, ?_⟩
      rw [sum_int]
      have e24 : (((I.map List.length).sum : Nat) : Int) ≤ 24 := by have := r.tot; omega
      have e0 : atI (I.map wD) 0 = some (wD (img I 0)) := at_img (a := 0) hp
      have e2 : (2 : Int) ≤ ((img I 0).length : Int) := by have := r.h2; omega
      have e00 : atI (natL (img I 0)) 0 = some (.int 0) := by
        have : (natL (img I 0))[0]? = some (.int 0) := by simp -implicitDefEqProofs [natL, r.h0]
        exact DL.atI_nat (i := 0) this
      simp -implicitDefEqProofs [e24]
      refine ⟨_, e0, ?_⟩
      simp -implicitDefEqProofs [e2]
      refine ⟨_, e0, ?_⟩
      try simp -implicitDefEqProofs
      refine ⟨_, e00, ?_⟩
      simp -implicitDefEqProofs [u_eq]
      refine m_as f ?_
      simp -implicitDefEqProofs
      exact h
end LW
namespace LW
open PySem L2 Evl PySem.Spec PyProof.Rows DL LamX PM
theorem m_pick {ds : List D} {P : Sl → Prop} {X : DX → Prop} (h0 : ds ≠ []) (hl : ds.length ≤ 1000) (h : ∀ d ∈ ds, P (.fz d)) : df__law_pick [.ow .pen, .fz (.lst ds)] P X := by
  have hp : 0 < ds.length := List.length_pos_iff.mpr h0
  have e1 : (0 : Int) < (ds.length : Int) := by omega
  have e2 : (ds.length : Int) ≤ 1000000000 := by omega
  simp -implicitDefEqProofs [df__law_pick, df__law_draw, dfOf, e1, e2]
  refine ⟨hp, fun r h1 h2 => ?_⟩
  obtain ⟨q, rfl⟩ : ∃ q : Nat, r = q := ⟨r.toNat, by omega⟩
  have hq : q < ds.length := by omega
  refine ⟨ds[q], DL.atI_nat (by simp -implicitDefEqProofs [hq]), h _ (List.getElem_mem hq)⟩
theorem m_bad {P : Sl → Prop} {X : DX → Prop} (h : ∀ d, tyD d ≠ none → P (.fz d)) : df__law_bad_rule [.ow .pen] P X := by
  simp -implicitDefEqProofs [df__law_bad_rule, dfOf]
  refine m_pick (by simp -implicitDefEqProofs) (by simp -implicitDefEqProofs) fun d hd => ?_
  refine h d ?_
  simp -implicitDefEqProofs at hd
  rcases hd with rfl | rfl | rfl | rfl | rfl | rfl <;> simp -implicitDefEqProofs [tyD]
/-- the letters drawn so far -/
structure Part (m n : Nat) (I : List (List Nat)) : Prop where
  len : I.length = n
  w : ∀ w ∈ I, w ≠ [] ∧ w.length ≤ 3 ∧ ∀ b ∈ w, b < m
  h0 : ∃ (w0 : List Nat) (r : List (List Nat)), I = (0 :: w0) :: r ∧ w0 ≠ []
theorem part_fit {m : Nat} {I : List (List Nat)} (hm : m ≤ 5) (p : Part m m I) : FitR I := by
  obtain ⟨w0, r, e, h0⟩ := p.h0
  have hl := p.len
  have pos : 0 < I.length := by rw [e]; simp -implicitDefEqProofs
  have mem : ∀ a, a < I.length → img I a ∈ I := fun a ha => by simp -implicitDefEqProofs [img, ha]
  refine ⟨⟨⟨pos, fun a ha => (p.w _ (mem a ha)).1, fun a ha b hb => by rw [hl]; exact (p.w _ (mem a ha)).2.2 b hb⟩, by omega, fun a => ?_⟩, ?_, ?_, ?_⟩
  · by_cases ha : a < I.length
    · have := (p.w _ (mem a ha)).2.1; omega
    · simp -implicitDefEqProofs [img, ha]
  · have : ∀ l : List (List Nat), (∀ w ∈ l, w.length ≤ 3) → (l.map List.length).sum ≤ 3 * l.length := fun l hl => by
      induction l with
      | nil => simp -implicitDefEqProofs
      | cons w l ih =>
        have := ih fun y hy => hl y (List.mem_cons_of_mem _ hy)
        have := hl w List.mem_cons_self
        simp -implicitDefEqProofs; omega
    have := this I fun w hw => (p.w w hw).2.1
    omega
  · rw [e]; simp -implicitDefEqProofs [img]; exact List.length_pos_iff.mpr h0
  · rw [e]; simp -implicitDefEqProofs [img]
theorem draw_lc {m : Nat} {δ : DL.Env} {n : Nat} {k : List D → DL.Env → Prop} (hm : 1 ≤ m) (hm5 : m ≤ 5) (h0 : δ[0]? = some (some (.ow .pen))) (h2 : δ[2]? = some (some (.fz (.int (m : Int))))) (h5 : δ[5]? = some none) (hl : δ.length = 6)
    (h : ∀ ys : List Nat, ys.length = n → (∀ y ∈ ys, y < m) → k (natL ys) δ) : lcD (gNm 5) tYesD (eCallN 2 df__law_draw (aCons (oB 0) (aCons (oE (eVar 2)) aNil))) [5] ((List.range n).map fun (b : Nat) => D.int (b : Int)) δ k := by
  match δ, hl with
  | [x0, x1, x2, x3, x4, x5], _ =>
    simp -implicitDefEqProofs at h0 h2 h5
    subst h0; subst h2; subst h5
    have e1 : (0 : Int) < (m : Int) := by omega
    have e2 : (m : Int) ≤ 1000000000 := by omega
    refine lcD_relE (fun δ => δ = [some (.ow .pen), x1, some (.fz (.int (m : Int))), x3, x4, none]) (fun b : Nat => D.int (b : Int)) (fun y : Nat => D.int (y : Int)) (fun _ y => y < m) ?_ rfl ?_
    · rintro b hb δ rfl k hk
      simp -implicitDefEqProofs [df__law_draw, e1, e2]
      refine ⟨by omega, fun r h1 h2 => ?_⟩
      obtain ⟨q, rfl⟩ : ∃ q : Nat, r = q := ⟨r.toNat, by omega⟩
      have := hk q _ (by omega) rfl
      simpa using this
    · rintro ys δ' hy hr rfl
      refine h ys (by simpa using hy) fun y hy' => ?_
      obtain ⟨i, hi, rfl⟩ := List.getElem_of_mem hy'
      have hi' : i < (List.range n).length := by rw [← hy]; exact hi
      exact hr i _ _ (List.getElem?_eq_getElem hi') (List.getElem?_eq_getElem hi)
theorem part_l4 {m : Nat} {I : List (List Nat)} (p : Part m m I) : ∀ a, (img I a).length ≤ 4 := fun a => by
  by_cases ha : a < I.length
  · have := (p.w (img I a) (by simp -implicitDefEqProofs [img, ha])).2.1; omega
  · simp -implicitDefEqProofs [img, ha]
theorem m_any {mo : Nat} {P : Sl → Prop} {X : DX → Prop} (mo1 : 1 ≤ mo) (mo5 : mo ≤ 5) (h : ∀ I, FitR I → (∀ a, (img I a).length ≤ 4) → I.length ≤ mo → P (.fz (iD I))) : df__law_any_images [.ow .pen, .fz (.int (mo : Int))] P X := by
  have k1 : (0 : Int) < (mo : Int) := by omega
  have k2 : (mo : Int) ≤ 1000000000 := by omega
  simp -implicitDefEqProofs [df__law_any_images, df__law_draw, dfOf, k2]
  refine ⟨by omega, fun r h1 h2 => ?_⟩
  obtain ⟨q, rfl⟩ : ∃ q : Nat, r = q := ⟨r.toNat, by omega⟩
  obtain ⟨m, hm, em⟩ : ∃ m : Nat, m = q + 1 ∧ (1 + (q : Int)) = (m : Int) := ⟨q + 1, rfl, by omega⟩
  rw [em]
  have hm5 : m ≤ 5 := by omega
  have hm1 : 1 ≤ m := by omega
  simp -implicitDefEqProofs [g__law_any_images_4]
  rw [df__law_draw, o_draw]
  refine ⟨by omega, by omega, fun r2 h3 h4 => ?_⟩
  obtain ⟨q2, rfl⟩ : ∃ q : Nat, r2 = q := ⟨r2.toNat, by omega⟩
  have e2 : (1 + (q2 : Int)).toNat = q2 + 1 := by omega
  simp -implicitDefEqProofs [e2, rng_items]
  refine ⟨⟨by omega, by omega⟩, by omega, ?_⟩
  refine draw_lc hm1 hm5 ?_ ?_ ?_ ?_ ?_
  · rfl
  · rfl
  · rfl
  · rfl
  intro ys hy hys
  simp -implicitDefEqProofs
  refine ⟨by omega, ?_⟩
  simp -implicitDefEqProofs [g__law_any_images_3]
  refine ⟨by omega, ?_⟩
  rw [rgD_eq]
  refine forD_inv (fun i δ => ∃ (J : List (List Nat)) (o4 : Option Sl), Part m (i + 1) J ∧ penA o4 ∧ δ = [some (.ow .pen), some (.fz (.int (mo : Int))), some (.fz (.int (m : Int))), some (.ow (.lst (J.map wD))), o4, none]) 0 ⟨[0 :: ys], none, ⟨rfl, ?_, ys, [], rfl, ?_⟩, trivial, ?_⟩ ?_ ?_
  · intro w hw
    simp -implicitDefEqProofs at hw
    subst hw
    refine ⟨by simp -implicitDefEqProofs, by simp -implicitDefEqProofs; omega, fun b hb => ?_⟩
    rcases List.mem_cons.mp hb with rfl | hb
    · omega
    · exact hys b hb
  · intro z; subst z; simp -implicitDefEqProofs at hy
  · simp -implicitDefEqProofs [wD, natL]
  · rintro j d δ N hd ⟨J, o4, hJ, hp, rfl⟩ hN
    obtain ⟨b, hb, rfl⟩ := at_ix hd
    have hj := (List.getElem?_eq_some_iff.mp hb).1
    rw [List.length_range] at hj
    rw [Nat.zero_add] at hN hJ
    simp -implicitDefEqProofs [hp]
    simp only [g__law_any_images_2]
    simp -implicitDefEqProofs
    rw [df__law_draw, o_draw]
    refine ⟨by omega, by omega, fun r2 h3 h4 => ?_⟩
    obtain ⟨q3, rfl⟩ : ∃ q : Nat, r2 = q := ⟨r2.toNat, by omega⟩
    have e3 : (1 + (q3 : Int)).toNat = q3 + 1 := by omega
    simp -implicitDefEqProofs [e3, rng_items]
    refine ⟨⟨by omega, by omega⟩, by omega, ?_⟩
    refine draw_lc hm1 hm5 ?_ ?_ ?_ ?_ ?_
    · rfl
    · rfl
    · rfl
    · rfl
    intro zs hz hzs
    have hl := hJ.len
    simp -implicitDefEqProofs
    refine ⟨by omega, hN _ ⟨J ++ [zs], _, ⟨by simp -implicitDefEqProofs [hl], fun w hw => ?_, ?_⟩, ?_, by simp -implicitDefEqProofs; rfl⟩⟩
    · rcases List.mem_append.mp hw with hw | hw
      · exact hJ.w w hw
      · simp -implicitDefEqProofs at hw
        subst hw
        refine ⟨fun z => by subst z; simp -implicitDefEqProofs at hz, by omega, hzs⟩
    · obtain ⟨w0, r, e, h0⟩ := hJ.h0
      exact ⟨w0, r ++ [zs], by rw [e]; rfl, h0⟩
    · trivial
  · rintro δ' ⟨J, o4, hJ, hp, rfl⟩
    simp only [g__law_any_images_1]
    simp -implicitDefEqProofs
    have e : 0 + (List.map (fun (i : Nat) => D.int (1 + (i : Int))) (List.range (m - 1))).length + 1 = m := by simp -implicitDefEqProofs; omega
    rw [e] at hJ
    exact h J (part_fit hm5 hJ) (part_l4 hJ) (by have := hJ.len; omega)
end LW
namespace LW
open PySem L2 Evl PySem.Spec PyProof.Rows DL LamX PM
def fitB (I : List (List Nat)) : Bool := decide (0 < I.length) && (decide (I.length ≤ 5) && (I.all (fun w => !w.isEmpty && (decide (w.length ≤ 8) && w.all fun b => decide (b < I.length))) && (decide ((I.map List.length).sum ≤ 24) && (decide (2 ≤ (img I 0).length) && decide ((img I 0)[0]? = some 0)))))
theorem fit_of {I : List (List Nat)} (h : fitB I = true) : FitR I := by
  unfold fitB at h
  simp only [Bool.and_eq_true, decide_eq_true_eq, List.all_eq_true, Bool.not_eq_true', List.isEmpty_eq_false_iff] at h
  obtain ⟨h1, h2, h3, h4, h5, h6⟩ := h
  have mem : ∀ a, a < I.length → img I a ∈ I := fun a ha => by simp -implicitDefEqProofs [img, ha]
  refine ⟨⟨⟨h1, fun a ha => (h3 _ (mem a ha)).1, fun a ha b hb => (h3 _ (mem a ha)).2.2 b hb⟩, h2, fun a => ?_⟩, h4, h5, h6⟩
  by_cases ha : a < I.length
  · exact (h3 _ (mem a ha)).2.1
  · simp -implicitDefEqProofs [img, ha]
def primB (I : List (List Nat)) : Bool := (List.range (I.length * I.length + 1)).any fun k => decide (k ≤ 4) && (List.range I.length).all fun a => (List.range I.length).all fun b => (wd I (k + 1) a).contains b
open Classical in
theorem prim_of {I : List (List Nat)} (h : primB I = true) : prim I = true := by
  unfold primB at h
  simp only [List.any_eq_true, Bool.and_eq_true, decide_eq_true_eq, List.all_eq_true, List.mem_range, List.contains_eq_mem] at h
  obtain ⟨k, hk, _, h⟩ := h
  unfold prim
  have : ∃ k, k ≤ I.length * I.length ∧ full I k := ⟨k, by omega, fun a ha b hb => h a ha b hb⟩
  rw [decide_eq_true_eq]
  exact this
theorem m_known {P : Sl → Prop} {X : DX → Prop} (h : ∀ I, FitR I → (∀ a, (img I a).length ≤ 4) → prim I = true → I.length ≤ 4 → P (.fz (iD I))) : df__law_known_images [.ow .pen] P X := by
  simp -implicitDefEqProofs [df__law_known_images, dfOf]
  simp only [g__law_known_images_1]
  simp -implicitDefEqProofs
  refine m_pick (by simp -implicitDefEqProofs) (by simp -implicitDefEqProofs) fun d hd => ?_
  simp -implicitDefEqProofs at hd
  have w : ∀ I, (fitB I && (primB I && (I.all (fun w => decide (w.length ≤ 4)) && decide (I.length ≤ 4)))) = true → P (.fz (iD I)) := fun I hI => by
    simp only [Bool.and_eq_true, decide_eq_true_eq, List.all_eq_true] at hI
    obtain ⟨h1, h2, h3, h4⟩ := hI
    refine h I (fit_of h1) (fun a => ?_) (prim_of h2) h4
    by_cases ha : a < I.length
    · exact h3 _ (by simp -implicitDefEqProofs [img, ha])
    · simp -implicitDefEqProofs [img, ha]
  rcases hd with rfl | rfl | rfl | rfl | rfl | rfl | rfl | rfl | rfl | rfl | rfl
  · exact w [[0, 1], [0]] (by decide +kernel)
  · exact w [[0, 1], [1, 0]] (by decide +kernel)
  · exact w [[0, 1], [0, 0]] (by decide +kernel)
  · exact w [[0, 1], [0, 2], [0]] (by decide +kernel)
  · exact w [[0, 0, 1, 0], [1, 0]] (by decide +kernel)
  · exact w [[0, 1], [0, 2], [3, 1], [3, 2]] (by decide +kernel)
  · exact w [[0, 0]] (by decide +kernel)
  · exact w [[0, 1], [0, 1]] (by decide +kernel)
  · exact w [[0, 1, 2], [0, 1, 2], [0, 1, 2]] (by decide +kernel)
  · exact w [[0, 1, 1], [0]] (by decide +kernel)
  · exact w [[0, 1], [2], [0]] (by decide +kernel)
theorem m_pen {ns : List Int} {P : Sl → Prop} {X : DX → Prop} (hl : ns.length ≤ 63) (h : P (.ow .pen)) : df__law_pen [.fz (.scr ns)] P X := by
  have s47 : small 47 := small_nat 47 (by decide +kernel)
  simp -implicitDefEqProofs [df__law_pen, dfOf]
  simp only [g__law_pen_1, g__law_pen_2, g__law_pen_3]
  simp -implicitDefEqProofs
  refine forD_inv (fun i δ => ∃ (f : Int) (o2 : Option Sl), 0 ≤ f ∧ f < 1000000007 ∧ penA o2 ∧ δ = [some (.fz (.scr ns)), some (.fz (.int f)), o2]) 0 ⟨0, none, by omega, by omega, trivial, rfl⟩ ?_ ?_
  · rintro j d δ N hd ⟨f, o2, h1, h2, hp, rfl⟩ hN
    obtain ⟨b, hb, rfl⟩ := at_ix hd
    have sf : small f := by
      obtain ⟨q, rfl⟩ : ∃ q : Nat, f = q := ⟨f.toNat, by omega⟩
      unfold small
      have : (1000000007 : Nat) < 2 ^ 400000 := Nat.lt_of_lt_of_le (by decide : 1000000007 < 2 ^ 30) (Nat.pow_le_pow_right (by decide) (by decide))
      omega
    simp -implicitDefEqProofs [hp, sf, s47, nInt, dMod]
    refine hN _ ⟨_, some (.fz (.int b)), Int.emod_nonneg _ (by decide), Int.emod_lt_of_pos _ (by decide), trivial, rfl⟩
  · rintro δ' ⟨f, o2, h1, h2, hp, rfl⟩
    simp -implicitDefEqProofs [sPen]
    exact ⟨hl, h1, by omega, h⟩
end LW
namespace LW
open PySem L2 Evl PySem.Spec PyProof.Rows DL LamX PM
/-! ### words led -/
theorem fl_le {I : List (List Nat)} (f : Fit I) : ∀ w : List Nat, (w.flatMap (img I)).length ≤ 8 * w.length
  | [] => by simp -implicitDefEqProofs
  | a :: w => by
    have := f.l8 a
    have := fl_le f w
    rw [List.flatMap_cons, List.length_append, List.length_cons]
    omega
theorem m_image_by {I : List (List Nat)} {w : List Nat} {P : Sl → Prop} {X : DX → Prop} (f : Fit I) (hm : ∀ b ∈ w, b < I.length) (hl : w.length ≤ 12500) (h : P (.fz (wD (w.flatMap (img I))))) : df_image_by [.fz (iD I), .fz (wD w)] P X := by
  simp -implicitDefEqProofs [df_image_by, dfOf]
  simp only [g_image_by_3]
  simp -implicitDefEqProofs
  refine forD_inv (fun i δ => ∃ o3 : Option Sl, penA o3 ∧ δ = [some (.fz (iD I)), some (.fz (wD w)), some (.ow (.lst (natL ((w.take i).flatMap (img I))))), o3]) 0 ⟨none, trivial, by simp⟩ ?_ ?_
  · rintro j d δ N hd ⟨o3, hp, rfl⟩ hN
    obtain ⟨b, hb, rfl⟩ := at_ix hd
    have hj := (List.getElem?_eq_some_iff.mp hb).1
    have hbm := hm b (List.mem_of_getElem? hb)
    rw [Nat.zero_add] at hN ⊢
    simp -implicitDefEqProofs [hp]
    simp only [g_image_by_2]
    simp -implicitDefEqProofs
    refine ⟨_, at_img hbm, ?_⟩
    have h1 := fl_le f (w.take j)
    have h2 := f.l8 b
    have h4 : (w.take j).length ≤ j := by rw [List.length_take]; omega
    have h3 : (w.take (j + 1)).flatMap (img I) = (w.take j).flatMap (img I) ++ img I b := by
      rw [List.take_add_one, List.flatMap_append, hb]
      simp -implicitDefEqProofs
    simp -implicitDefEqProofs
    refine ⟨by simp -implicitDefEqProofs at h1; omega, hN _ ⟨some (.fz (.int (b : Int))), trivial, ?_⟩⟩
    rw [h3]
    simp -implicitDefEqProofs
  · rintro δ' ⟨o3, hp, rfl⟩
    simp only [g_image_by_1]
    simp -implicitDefEqProofs
    simpa using h
theorem law_image_eq : df__law_image = df_image_by := rfl
/-! ### dicts of letters and numbers -/
def knF (p : Nat × Nat) : D × D := (.int (p.1 : Int), .int (p.2 : Int))
abbrev kn (l : List Nat) : List (D × D) := l.zipIdx.map knF
theorem kn_has : ∀ (l : List Nat) (n b : Nat), hasD ((l.zipIdx n).map knF) (.inl (b : Int)) = decide (b ∈ l)
  | [], n, b => rfl
  | c :: l, n, b => by
    have : hasD (((c :: l).zipIdx n).map knF) (.inl (b : Int)) = (decide ((c : Int) = b) || hasD ((l.zipIdx (n + 1)).map knF) (.inl (b : Int))) := by simp -implicitDefEqProofs [hasD, knF, keyD]
    rw [this, kn_has l (n + 1) b]
    by_cases hc : c = b
    · subst hc; simp -implicitDefEqProofs
    · simp -implicitDefEqProofs [hc, Ne.symm hc]; omega
theorem kn_put {l : List Nat} {b : Nat} (h : b ∉ l) : putD (kn l) (.inl (b : Int)) (.int (l.length : Int)) = kn (l ++ [b]) := by
  unfold putD kn
  rw [kn_has, List.zipIdx_append, List.map_append]
  simp -implicitDefEqProofs [h, knF, kD]
theorem kn_get : ∀ (l : List Nat) (n b : Nat), b ∈ l → getD' ((l.zipIdx n).map knF) (.inl (b : Int)) = some (.int ((n + l.idxOf b : Nat) : Int))
  | c :: l, n, b, h => by
    by_cases hc : c = b
    · subst hc
      simp -implicitDefEqProofs [getD', knF, keyD]
    · have h' : b ∈ l := by
        rcases List.mem_cons.mp h with e | e
        · exact (hc e.symm).elim
        · exact e
      have hc' : ¬ ((c : Int) = (b : Int)) := by omega
      have : getD' (((c :: l).zipIdx n).map knF) (.inl (b : Int)) = getD' ((l.zipIdx (n + 1)).map knF) (.inl (b : Int)) := by
        simp -implicitDefEqProofs [getD', knF, keyD, hc']
      rw [this, kn_get l (n + 1) b h']
      have e : (c :: l).idxOf b = l.idxOf b + 1 := by rw [List.idxOf_cons, beq_false_of_ne hc]; rfl
      rw [e]
      congr 3
      omega
theorem kn_len (l : List Nat) : (kn l).length = l.length := by unfold kn; rw [List.length_map, List.length_zipIdx]
end LW
namespace LW
open PySem L2 Evl PySem.Spec PyProof.Rows DL LamX PM
theorem wd_le8 {I : List (List Nat)} (f : Fit I) : ∀ k : Nat, (wd I k 0).length ≤ 8 ^ k
  | 0 => by simp -implicitDefEqProofs [wd]
  | k + 1 => by
    rw [wd_img]
    have := fl_le f (wd I k 0)
    have := wd_le8 f k
    rw [Nat.pow_succ]
    omega
theorem at_wd {w : List Nat} {i : Nat} (h : i < w.length) : atI (natL w) (i : Int) = some (.int ((w[i]'h : Nat) : Int)) := DL.atI_nat (by simp -implicitDefEqProofs [natL, h])
abbrev names (I : List (List Nat)) : List Nat := (List.range I.length).map (nm I)
theorem rw_nd {I : List (List Nat)} (r : Row I) (w : List Nat) (hw : ∀ b ∈ w, b < I.length) : (fo w).length ≤ I.length := nd_len (fo_nd w) fun b hb => hw b (fo_mem.mp hb)
/-- the end of both: the numbers, letter by letter -/
theorem names_get {I : List (List Nat)} (r : Row I) {l : List Nat} (e : l = ord I) {b : Nat} (hb : b < I.length) : getD' (kn l) (.inl (b : Int)) = some (.int (nm I b : Int)) := by
  subst e
  have := kn_get (ord I) 0 b ((ord_mem r).mpr hb)
  rwa [Nat.zero_add] at this
theorem m_naming_by {I : List (List Nat)} {P : Sl → Prop} {X : DX → Prop} (f : Fit I) (r : Row I) (h : P (.fz (.tup (natL (names I))))) : df_naming_by [.fz (iD I)] P X := by
  have hm := f.m5
  have hI : I.length ≤ 100000 := by omega
  have e0 : atI (I.map wD) 0 = some (wD (img I 0)) := at_img f.g.pos
  simp -implicitDefEqProofs [df_naming_by, dfOf]
  refine ⟨_, e0, ?_⟩
  simp -implicitDefEqProofs [g_naming_by_5]
  have w1 : wD (img I 0) = wD (wd I 1 0) := by rw [wd_one]
  rw [w1]
  refine ⟨fun m δ => ∃ (k at' : Nat), δ = [some (.fz (iD I)), some (.ow (.dct (kn (fo ((wd I k 0).take at'))))), some (.fz (wD (wd I k 0))), some (.fz (.int (at' : Int))), none] ∧ 1 ≤ k ∧ k ≤ 5 ∧ at' ≤ (wd I k 0).length ∧ m + at' = 8 ^ 5, ?_, ?_⟩
  · refine ⟨8 ^ 5, 1, 0, ?_, by omega, by omega, by omega, by omega⟩
    simp -implicitDefEqProofs [fo]
  · rintro m δ ⟨k, a, rfl, k1, k5, ha, hma⟩
    simp -implicitDefEqProofs [kn_len]
    have hw : ∀ b ∈ (wd I k 0).take a, b < I.length := fun b hb => wd_lt f.g k 0 f.g.pos b (List.mem_of_mem_take hb)
    have tail : ∀ (k2 : Nat) (B : EndsD), 1 ≤ k2 → k2 ≤ 5 → (wd I k2 0).take a = (wd I k 0).take a → a < (wd I k2 0).length → (∀ w' : List Nat, w' = (wd I k2 0).take (a + 1) → B.nx [some (.fz (iD I)), some (.ow (.dct (kn (fo w')))), some (.fz (wD (wd I k2 0))), some (.fz (.int ((a + 1 : Nat) : Int))), none]) →
        g_naming_by_3 [some (.fz (iD I)), some (.ow (.dct (kn (fo ((wd I k 0).take a))))), some (.fz (wD (wd I k2 0))), some (.fz (.int (a : Int))), none] B := fun k2 B h1 h2 ht ha2 hB => by
      have e1 := at_wd ha2
      have ht2 : (wd I k2 0).take (a + 1) = (wd I k 0).take a ++ [(wd I k2 0)[a]'ha2] := by
        rw [List.take_add_one, List.getElem?_eq_getElem ha2, ht]
        rfl
      have hB' := hB _ rfl
      rw [ht2, fo_snoc] at hB'
      have hl : (fo ((wd I k 0).take a)).length ≤ I.length := rw_nd r _ hw
      simp only [g_naming_by_3]
      simp -implicitDefEqProofs
      refine ⟨_, e1, ?_⟩
      simp -implicitDefEqProofs [kn_has]
      unfold foS at hB'
      by_cases hc : (wd I k2 0)[a]'ha2 ∈ fo ((wd I k 0).take a)
      · rw [if_pos hc] at hB'
        simp -implicitDefEqProofs [hc, g_naming_by_2]
        simpa using hB'
      · rw [if_neg hc] at hB'
        simp -implicitDefEqProofs [hc, g_naming_by_2]
        refine ⟨_, e1, _, rfl, by omega, ?_⟩
        rw [kn_put hc]
        simpa using hB'
    by_cases hl : (fo ((wd I k 0).take a)).length < I.length
    · simp -implicitDefEqProofs [hl]
      simp only [g_naming_by_4]
      simp -implicitDefEqProofs
      have h85 := wd_le8 f k
      by_cases ea : a = (wd I k 0).length
      · have ea2 : (a : Int) = ((wd I k 0).length : Int) := by omega
        have hk : k < I.length := by
          apply Classical.byContradiction
          intro no
          rw [ea, List.take_length, ord_at r (by omega), ord_len r] at hl
          omega
        have k4 : k ≤ 4 := by omega
        have p8 : 8 ^ k ≤ 8 ^ 4 := Nat.pow_le_pow_right (by omega) k4
        have gr := wd_grow r k
        obtain ⟨t, et⟩ := wd_pre1 r.h0 k
        simp -implicitDefEqProofs [u_eq, ea2]
        refine m_image_by f (fun b hb => wd_lt f.g k 0 f.g.pos b hb) (by omega) ?_
        rw [← wd_img, ← ea2]
        refine tail (k + 1) _ (by omega) (by omega) ?_ (by omega) ?_
        · rw [ea, List.take_length, ← et, List.take_left]
        · rintro w' rfl
          exact ⟨m - 1, by omega, k + 1, a + 1, rfl, by omega, by omega, by omega, by omega⟩
      · have ea2 : ¬ ((a : Int) = ((wd I k 0).length : Int)) := by omega
        simp -implicitDefEqProofs [u_eq, ea2]
        have p8 : 8 ^ k ≤ 8 ^ 5 := Nat.pow_le_pow_right (by omega) k5
        refine tail k _ k1 k5 rfl (by omega) ?_
        rintro w' rfl
        exact ⟨m - 1, by omega, k, a + 1, rfl, by omega, by omega, by omega, by omega⟩
    · simp -implicitDefEqProofs [hl]
      have e := ord_of r (List.take_prefix a (wd I k 0)) (by omega)
      simp only [g_naming_by_1]
      simp -implicitDefEqProofs [rng_items]
      refine ⟨by omega, by omega, ?_⟩
      refine lcD_map (fun b : Nat => D.int (b : Int)) (fun _ => true) (fun b => D.int (nm I b : Int)) (fun b hb k2 hk => ?_) ?_
      · have hb' := List.mem_range.mp hb
        simp -implicitDefEqProofs
        refine ⟨_, names_get r e hb', ?_⟩
        simpa using hk
      · rw [List.filter_eq_self.mpr (by simp -implicitDefEqProofs)]
        simp -implicitDefEqProofs
        simpa [names, natL, Function.comp_def] using h
end LW
namespace LW
open PySem L2 Evl PySem.Spec PyProof.Rows DL LamX PM
theorem cut_first {α : Type} (l : List α) (L : Nat) : cutA l none (some (L : Int)) = l.take L := by
  unfold cutA
  rw [HT.sIx_nat, HT.sIx_none, List.drop_zero, Nat.sub_zero]
  rcases Nat.le_total L l.length with q | q
  · rw [Nat.min_eq_left q]
  · rw [Nat.min_eq_right q, List.take_of_length_le (Nat.le_refl _), List.take_of_length_le q]
theorem m_row_start {I : List (List Nat)} {L : Nat} {P : Sl → Prop} {X : DX → Prop} (f : Fit I) (r : PM.Row I) (hL : L ≤ 12500) (h : P (.fz (wD (rowS I L)))) : df__law_row_start [.fz (iD I), .fz (.int (L : Int))] P X := by
  simp -implicitDefEqProofs [df__law_row_start, dfOf]
  simp -implicitDefEqProofs [g__law_row_start_3, rng_items]
  refine ⟨by omega, ?_⟩
  refine forD_inv (fun i δ => ∃ (k : Nat) (o3 : Option Sl), penA o3 ∧ (L ≤ (wd I k 0).length ∨ k = i) ∧ δ = [some (.fz (iD I)), some (.fz (.int (L : Int))), some (.fz (wD (wd I k 0))), o3]) 0 ⟨0, none, trivial, .inr rfl, rfl⟩ ?_ ?_
  · rintro j d δ N hd ⟨k, o3, hp, hk, rfl⟩ hN
    obtain ⟨b, hb, rfl⟩ := at_ix hd
    rw [Nat.zero_add] at hN hk
    simp -implicitDefEqProofs [hp]
    simp only [g__law_row_start_2]
    simp -implicitDefEqProofs
    by_cases hl : (wd I k 0).length < L
    · simp -implicitDefEqProofs [hl]
      rw [law_image_eq]
      refine m_image_by f (fun b hb => wd_lt f.g k 0 f.g.pos b hb) (by omega) ?_
      rw [← wd_img]
      exact hN _ ⟨k + 1, some (.fz (.int (b : Int))), trivial, .inr (by omega), rfl⟩
    · simp -implicitDefEqProofs [hl]
      exact hN _ ⟨k, some (.fz (.int (b : Int))), trivial, .inl (by omega), rfl⟩
  · rintro δ' ⟨k, o3, hp, hk, rfl⟩
    simp only [g__law_row_start_1]
    simp -implicitDefEqProofs [cut_first]
    have hk' : L ≤ (wd I k 0).length := by
      rcases hk with q | q
      · exact q
      · have := wd_ge r k
        simp -implicitDefEqProofs at q
        omega
    rw [← List.map_take, rowS_of r hk']
    exact h
theorem wd_le4 {I : List (List Nat)} (l4 : ∀ a, (img I a).length ≤ 4) : ∀ k : Nat, (wd I k 0).length ≤ 4 ^ k
  | 0 => by simp -implicitDefEqProofs [wd]
  | k + 1 => by
    rw [wd_img]
    have h : ∀ w : List Nat, (w.flatMap (img I)).length ≤ 4 * w.length := fun w => by
      induction w with
      | nil => simp -implicitDefEqProofs
      | cons a w ih => have := l4 a; rw [List.flatMap_cons, List.length_append, List.length_cons]; omega
    have := h (wd I k 0)
    have := wd_le4 l4 k
    rw [Nat.pow_succ]
    omega
theorem m_law_names {I : List (List Nat)} {P : Sl → Prop} {X : DX → Prop} (f : Fit I) (r : PM.Row I) (l4 : ∀ a, (img I a).length ≤ 4) (h : P (.fz (.tup (natL (names I))))) : df__law_names [.fz (iD I)] P X := by
  have hm := f.m5
  have hI : I.length ≤ 100000 := by omega
  simp -implicitDefEqProofs [df__law_names, dfOf]
  refine m_row_start (L := 4000) f r (by omega) ?_
  simp -implicitDefEqProofs [g__law_names_3]
  refine forD_inv (fun i δ => ∃ (o3 : Option Sl), penA o3 ∧ δ = [some (.fz (iD I)), some (.fz (wD (rowS I 4000))), some (.ow (.dct (kn (fo ((rowS I 4000).take i))))), o3]) 0 ⟨none, trivial, by simp -implicitDefEqProofs [fo]⟩ ?_ ?_
  · rintro j d δ N hd ⟨o3, hp, rfl⟩ hN
    obtain ⟨b, hb, rfl⟩ := at_ix hd
    rw [Nat.zero_add] at hN ⊢
    have hw : ∀ b ∈ (rowS I 4000).take j, b < I.length := fun b hb => rowS_lt r (List.mem_of_mem_take hb)
    have hl : (fo ((rowS I 4000).take j)).length ≤ I.length := rw_nd r _ hw
    have e2 : (rowS I 4000).take (j + 1) = (rowS I 4000).take j ++ [b] := by
      rw [List.take_add_one, hb]
      rfl
    have hN' := hN [some (.fz (iD I)), some (.fz (wD (rowS I 4000))), some (.ow (.dct (kn (foS (fo ((rowS I 4000).take j)) b)))), some (.fz (.int (b : Int)))] ⟨some (.fz (.int (b : Int))), trivial, by rw [e2, fo_snoc]⟩
    unfold foS at hN'
    simp -implicitDefEqProofs [hp]
    simp only [g__law_names_2]
    simp -implicitDefEqProofs [kn_has]
    by_cases hc : b ∈ fo ((rowS I 4000).take j)
    · rw [if_pos hc] at hN'
      simp -implicitDefEqProofs [hc]
      exact hN'
    · rw [if_neg hc] at hN'
      simp -implicitDefEqProofs [hc]
      refine ⟨by omega, ?_⟩
      rw [kn_put hc]
      exact hN'
  · rintro δ' ⟨o3, hp, rfl⟩
    have e : fo ((rowS I 4000).take (0 + (natL (rowS I 4000)).length)) = ord I := by
      rw [Nat.zero_add, List.length_map, List.take_length]
      refine rowS_ord r ?_
      have h1 := wd_le4 l4 I.length
      have h2 : 4 ^ I.length ≤ 4 ^ 5 := Nat.pow_le_pow_right (by omega) hm
      omega
    simp only [g__law_names_1, e]
    simp -implicitDefEqProofs [rng_items]
    refine ⟨by omega, hp, by omega, ?_⟩
    refine lcD_map (fun b : Nat => D.int (b : Int)) (fun _ => true) (fun b => D.int (nm I b : Int)) (fun b hb k2 hk => ?_) ?_
    · have hb' := List.mem_range.mp hb
      simp -implicitDefEqProofs
      refine ⟨_, names_get r rfl hb', ?_⟩
      simpa using hk
    · rw [List.filter_eq_self.mpr (by simp -implicitDefEqProofs)]
      simp -implicitDefEqProofs
      simpa [names, natL, Function.comp_def] using h
/-! ### letters named otherwise -/
theorem at_o {o : List Nat} {b c : Nat} (h : o[b]? = some c) : atI (natL o) (b : Int) = some (.int (c : Int)) := DL.atI_nat (by simp -implicitDefEqProofs [natL, h])
theorem m_renamed {I : List (List Nat)} {o : List Nat} {f : Nat → Nat} {nv : D} {P : Sl → Prop} {X : DX → Prop} (hnv : nv = .tup (natL o) ∨ nv = .lst (natL o)) (ft : Fit I) (hr : Ren I.length f) (ho : ∀ a, a < I.length → o[a]? = some (f a)) (h : P (.fz (iD (ren I f)))) : df_renamed_by [.fz (iD I), .fz nv] P X := by
  have hm := ft.m5
  have hI : I.length ≤ 100000 := by omega
  have ix : ∀ (b : Nat) (k : Sl → Prop), b < I.length → k (.fz (.int (f b : Int))) → dIx nv (.int (b : Int)) k := fun b k hb hk => by
    rcases hnv with rfl | rfl <;> exact ⟨_, at_o (ho b hb), hk⟩
  have e0 : List.replicate I.length (D.tup []) = (renL I f 0).map wD := by simp -implicitDefEqProofs [renL, wD, natL]
  simp -implicitDefEqProofs [df_renamed_by, dfOf]
  simp -implicitDefEqProofs [e0]
  refine ⟨by omega, by omega, ?_⟩
  simp -implicitDefEqProofs [g_renamed_by_3]
  refine forD_inv (fun i δ => ∃ (o3 o4 : Option Sl), penA o3 ∧ penA o4 ∧ δ = [some (.fz (iD I)), some (.fz nv), some (.ow (.lst ((renL I f i).map wD))), o3, o4, none]) 0 ⟨none, none, trivial, trivial, rfl⟩ ?_ ?_
  · rintro j d δ N hd ⟨o3, o4, hp3, hp4, rfl⟩ hN
    rw [enD_get] at hd
    obtain ⟨w, hw, rfl⟩ : ∃ w, I[j]? = some w ∧ d = .tup [.int ((0 + j : Nat) : Int), wD w] := by
      rw [List.getElem?_map] at hd
      cases e : I[j]? with
      | none => rw [e] at hd; cases hd
      | some w => rw [e] at hd; cases hd; exact ⟨w, rfl, rfl⟩
    obtain ⟨hj, ew⟩ := img_get hw
    rw [Nat.zero_add] at hN ⊢
    have h8 := ft.l8 j
    rw [ew] at h8
    simp -implicitDefEqProofs [hp3, hp4]
    simp only [g_renamed_by_2]
    simp -implicitDefEqProofs
    refine ⟨by omega, ?_⟩
    refine lcD_map (fun b : Nat => D.int (b : Int)) (fun _ => true) (fun b => D.int (f b : Int)) (fun b hb k2 hk => ?_) ?_
    · have hb' := ft.g.lt j hj b (by rw [ew]; exact hb)
      simp -implicitDefEqProofs
      refine ix b _ hb' ?_
      simpa using hk
    · rw [List.filter_eq_self.mpr (by simp -implicitDefEqProofs)]
      simp -implicitDefEqProofs
      refine ix j _ hj ?_
      simp -implicitDefEqProofs
      refine ⟨f j, rfl, by rw [renL_len]; exact hr.lt j hj, hN _ ⟨some (.fz (.int (j : Int))), some (.fz (wD w)), trivial, trivial, ?_⟩⟩
      rw [renL_succ, ew, List.map_set]
      have ew2 : wD (w.map f) = .tup (w.map fun b => D.int (f b : Int)) := by
        show D.tup ((w.map f).map fun (n : Nat) => D.int (n : Int)) = _
        rw [List.map_map]
        rfl
      rw [ew2]
  · rintro δ' ⟨o3, o4, hp3, hp4, rfl⟩
    simp only [g_renamed_by_1]
    simp -implicitDefEqProofs
    rw [enD_len, List.length_map] 
    exact h
theorem er_perm {α : Type} : ∀ {l : List α} {q : Nat} (h : q < l.length), (l[q] :: l.eraseIdx q).Perm l
  | a :: l, 0, h => by simp -implicitDefEqProofs
  | a :: l, q + 1, h => by
    have h' : q < l.length := by simpa using h
    have := er_perm h'
    simp only [List.getElem_cons_succ, List.eraseIdx_cons_succ]
    exact (List.Perm.swap a _ _).trans (List.Perm.cons a this)
theorem er_map {α β : Type} (f : α → β) : ∀ (l : List α) (q : Nat), (l.map f).eraseIdx q = (l.eraseIdx q).map f
  | [], q => by simp -implicitDefEqProofs
  | a :: l, 0 => by simp -implicitDefEqProofs
  | a :: l, q + 1 => by simp -implicitDefEqProofs [er_map f l q]
theorem law_renamed_eq : df__law_renamed = df_renamed_by := rfl
theorem m_shuffled {l : List Nat} {P : Sl → Prop} {X : DX → Prop} (hl : l.length ≤ 1000) (h : ∀ l' : List Nat, l'.Perm l → P (.ow (.lst (natL l')))) : df__law_shuffled [.ow .pen, .fz (.lst (natL l))] P X := by
  simp -implicitDefEqProofs [df__law_shuffled, dfOf]
  simp -implicitDefEqProofs [g__law_shuffled_3, rng_items]
  refine ⟨by omega, ?_⟩
  refine forD_inv (fun i δ => ∃ (left found : List Nat) (o4 : Option Sl), penA o4 ∧ (found ++ left).Perm l ∧ found.length = i ∧ δ = [some (.ow .pen), some (.fz (.lst (natL l))), some (.ow (.lst (natL left))), some (.ow (.lst (natL found))), o4]) 0 ⟨l, [], none, trivial, by simp -implicitDefEqProofs, rfl, rfl⟩ ?_ ?_
  · rintro j d δ N hd ⟨left, found, o4, hp, pm, hf, rfl⟩ hN
    obtain ⟨b, hb, rfl⟩ := at_ix hd
    have hj := (List.getElem?_eq_some_iff.mp hb).1
    rw [List.length_range] at hj
    rw [Nat.zero_add] at hf hN
    have ple := pm.length_eq
    rw [List.length_append] at ple
    simp -implicitDefEqProofs [hp]
    simp only [g__law_shuffled_2]
    simp -implicitDefEqProofs
    rw [df__law_draw, o_draw]
    refine ⟨by omega, by omega, fun r h1 h2 => ?_⟩
    obtain ⟨q, rfl⟩ : ∃ q : Nat, r = q := ⟨r.toNat, by omega⟩
    have hq : q < left.length := by omega
    simp -implicitDefEqProofs
    have eq1 : (natL left)[q]? = some (.int ((left[q]'hq : Nat) : Int)) := by simp -implicitDefEqProofs [natL, hq]
    refine ⟨by omega, q, rfl, .int ((left[q]'hq : Nat) : Int), by simpa [natL] using eq1, by omega, hN _ ⟨left.eraseIdx q, found ++ [left[q]'hq], some (.fz (.int (b : Int))), trivial, ?_, by simp -implicitDefEqProofs [hf], ?_⟩⟩
    · refine List.Perm.trans ?_ pm
      rw [List.append_assoc]
      refine List.Perm.append_left found ?_
      simpa using er_perm hq
    · simp -implicitDefEqProofs [natL, er_map]
  · rintro δ' ⟨left, found, o4, hp, pm, hf, rfl⟩
    simp only [g__law_shuffled_1]
    simp -implicitDefEqProofs
    have : left = [] := by
      have ple := pm.length_eq
      rw [List.length_append] at ple
      simp -implicitDefEqProofs at hf
      exact List.length_eq_zero_iff.mp (by omega)
    subst this
    exact h found (by simpa using pm)
end LW
namespace LW
open PySem L2 Evl PySem.Spec PyProof.Rows DL LamX PM
open Classical in
theorem prim_ex {I : List (List Nat)} (h : prim I = true) : ∃ k, k ≤ I.length * I.length ∧ full I k := by
  unfold prim at h
  rwa [decide_eq_true_eq] at h
theorem row_of {I : List (List Nat)} (r : FitR I) (h : prim I = true) : PM.Row I := by
  refine ⟨r.f.g, ?_, fun b hb => ?_⟩
  · have h2 := r.h2
    have h0 := r.h0
    cases e : img I 0 with
    | nil => rw [e] at h2; simp -implicitDefEqProofs at h2
    | cons c t =>
      rw [e] at h0 h2
      simp -implicitDefEqProofs at h0
      subst h0
      refine ⟨t, rfl, fun z => ?_⟩
      subst z
      simp -implicitDefEqProofs at h2
  · obtain ⟨k, _, hf⟩ := prim_ex h
    exact ⟨k + 1, by omega, hf 0 r.f.g.pos b hb⟩
theorem ren_l {I : List (List Nat)} {f : Nat → Nat} {q : Nat} (h : Ren I.length f) (hl : ∀ a, (img I a).length ≤ q) : ∀ a, (img (ren I f) a).length ≤ q := fun b => by
  by_cases hb : b < I.length
  · obtain ⟨a, ha, rfl⟩ := ren_sur h hb
    rw [ren_img h ha, List.length_map]
    exact hl a
  · have : img (ren I f) b = [] := by
      unfold img
      rw [List.getD_eq_getElem?_getD, List.getElem?_eq_none (by rw [ren_len]; omega)]
      rfl
    rw [this]
    simp -implicitDefEqProofs
theorem ren_fit {I : List (List Nat)} {f : Nat → Nat} (r : FitR I) (h : Ren I.length f) : FitR (ren I f) := by
  have e : img (ren I f) 0 = (img I 0).map f := by
    have := ren_img h r.f.g.pos
    rwa [h.z] at this
  refine ⟨⟨ren_good r.f.g h, by rw [ren_len]; exact r.f.m5, ren_l h r.f.l8⟩, by rw [ren_sum h]; exact r.tot, by rw [e, List.length_map]; exact r.h2, ?_⟩
  rw [e, List.getElem?_map, r.h0]
  simp -implicitDefEqProofs [h.z]
open Classical in
theorem ren_prim {I : List (List Nat)} {f : Nat → Nat} (g : Good I) (h : Ren I.length f) (hp : prim I = true) : prim (ren I f) = true := by
  obtain ⟨k, hk, hf⟩ := prim_ex hp
  have : ∃ k, k ≤ (ren I f).length * (ren I f).length ∧ full (ren I f) k := ⟨k, by rw [ren_len]; exact hk, fun a' ha' b' hb' => by
    rw [ren_len] at ha' hb'
    obtain ⟨a, ha, rfl⟩ := ren_sur h ha'
    obtain ⟨b, hb, rfl⟩ := ren_sur h hb'
    rw [ren_wd g h (k + 1) a ha]
    exact List.mem_map_of_mem (hf a ha b hb)⟩
  unfold prim
  rw [decide_eq_true_eq]
  exact this
theorem m_need_rule {I : List (List Nat)} {s : Str} {P : Sl → Prop} {X : DX → Prop} (f : Fit I) (hp : prim I = true) (h : P (.fz (iD I))) : df_need_rule [.fz (rD I), .fz (.str s)] P X := by
  simp -implicitDefEqProofs [df_need_rule, dfOf]
  refine m_need ?_
  simp -implicitDefEqProofs [g_need_rule_2]
  refine m_prim f ?_
  simp -implicitDefEqProofs [hp, g_need_rule_1]
  exact h
theorem x_need_rule {I : List (List Nat)} {s : Str} {P : Sl → Prop} {X : DX → Prop} (f : Fit I) (hp : prim I = false) (h : X ⟨"Unlike", [("what", .str s)]⟩) : df_need_rule [.fz (rD I), .fz (.str s)] P X := by
  simp -implicitDefEqProofs [df_need_rule, dfOf]
  refine m_need ?_
  simp -implicitDefEqProofs [g_need_rule_2]
  refine m_prim f ?_
  simp -implicitDefEqProofs [hp]
  exact h
theorem x_need_bad {d : D} {s : Str} {P : Sl → Prop} {X : DX → Prop} (hd : tyD d ≠ none) (h : X ⟨"BadRule", [("what", .str s)]⟩) : df_need_rule [.fz d, .fz (.str s)] P X := by
  simp -implicitDefEqProofs [df_need_rule, dfOf]
  exact m_needX hd h
theorem m_naming {I : List (List Nat)} {P : Sl → Prop} {X : DX → Prop} (r : FitR I) (hp : prim I = true) (h : P (.fz (.tup (natL (names I))))) : df_naming [.fz (rD I)] P X := by
  simp -implicitDefEqProofs [df_naming, dfOf]
  refine m_need_rule r.f hp ?_
  simp -implicitDefEqProofs
  exact m_naming_by r.f (row_of r hp) h
abbrev well (I : List (List Nat)) : List (List Nat) := ren I (nm I)
theorem m_well_by {I : List (List Nat)} {P : Sl → Prop} {X : DX → Prop} (r : FitR I) (hp : prim I = true) (h : P (.fz (iD (well I)))) : df_well_by [.fz (iD I)] P X := by
  have rr := row_of r hp
  simp -implicitDefEqProofs [df_well_by, dfOf]
  refine m_naming_by r.f rr ?_
  simp -implicitDefEqProofs
  refine m_renamed (o := names I) (.inl (by simp -implicitDefEqProofs [names, natL])) r.f (nm_ren rr) (fun a ha => by simp -implicitDefEqProofs [names, ha]) h
theorem m_told_well {I : List (List Nat)} {P : Sl → Prop} {X : DX → Prop} (r : FitR I) (hp : prim I = true) (h : P (.fz (rD (well I)))) : df_told_well [.fz (rD I)] P X := by
  have rr := row_of r hp
  simp -implicitDefEqProofs [df_told_well, dfOf]
  refine m_need_rule r.f hp ?_
  simp -implicitDefEqProofs
  refine m_well_by r hp ?_
  simp -implicitDefEqProofs
  exact m_Rule (ren_fit r (nm_ren rr)) h
theorem x_naming {d : D} {P : Sl → Prop} {X : DX → Prop} (hd : tyD d ≠ none) (h : X ⟨"BadRule", [("what", .str "rule")]⟩) : df_naming [.fz d] P X := by
  simp -implicitDefEqProofs [df_naming, dfOf]
  exact x_need_bad hd h
theorem x_well {d : D} {P : Sl → Prop} {X : DX → Prop} (hd : tyD d ≠ none) (h : X ⟨"BadRule", [("what", .str "rule")]⟩) : df_told_well [.fz d] P X := by
  simp -implicitDefEqProofs [df_told_well, dfOf]
  exact x_need_bad hd h
theorem y_naming {I : List (List Nat)} {P : Sl → Prop} {X : DX → Prop} (f : Fit I) (hp : prim I = false) (h : X ⟨"Unlike", [("what", .str "rule")]⟩) : df_naming [.fz (rD I)] P X := by
  simp -implicitDefEqProofs [df_naming, dfOf]
  exact x_need_rule f hp h
theorem y_well {I : List (List Nat)} {P : Sl → Prop} {X : DX → Prop} (f : Fit I) (hp : prim I = false) (h : X ⟨"Unlike", [("what", .str "rule")]⟩) : df_told_well [.fz (rD I)] P X := by
  simp -implicitDefEqProofs [df_told_well, dfOf]
  exact x_need_rule f hp h
theorem kd_rule : kdT ⟨"BadRule", [("what", .str "rule")]⟩ = some (.tup [.str "rule", .str "rule"]) := by
  simp -implicitDefEqProofs [kdT, kd_BadRule, D.nox]
theorem kd_unlike : kdT ⟨"Unlike", [("what", .str "rule")]⟩ = some (.tup [.str "unlike", .str "rule"]) := by
  simp -implicitDefEqProofs [kdT, kd_Unlike, D.nox]
  intro h
  exact absurd h (by decide +kernel)
theorem m_one {c : Str} {d : D} {P : Sl → Prop} {X : DX → Prop} (hc : c = "naming" ∨ c = "told_well") (hd : tyD d ≠ none) (h : P (.fz (.tup [.str "rule", .str "rule"]))) : df__law_one [.fz (.top c), .fz d] P X := by
  simp -implicitDefEqProofs [df__law_one, dfOf, eFault, frzE, hideD]
  rcases hc with rfl | rfl
  · exact .inl ⟨rfl, by simp -implicitDefEqProofs; exact x_naming hd ⟨_, kd_rule, h⟩⟩
  · exact .inr ⟨rfl, by simp -implicitDefEqProofs; exact x_well hd ⟨_, kd_rule, h⟩⟩
theorem m_two {c : Str} {I : List (List Nat)} {P : Sl → Prop} {X : DX → Prop} (hc : c = "naming" ∨ c = "told_well") (f : Fit I) (hp : prim I = false) (h : P (.fz (.tup [.str "unlike", .str "rule"]))) : df__law_one [.fz (.top c), .fz (rD I)] P X := by
  simp -implicitDefEqProofs [df__law_one, dfOf, eFault, frzE, hideD]
  rcases hc with rfl | rfl
  · exact .inl ⟨rfl, by simp -implicitDefEqProofs; exact y_naming f hp ⟨_, kd_unlike, h⟩⟩
  · exact .inr ⟨rfl, by simp -implicitDefEqProofs; exact y_well f hp ⟨_, kd_unlike, h⟩⟩
theorem m_images {mo : Nat} {P : Sl → Prop} {X : DX → Prop} (mo1 : 1 ≤ mo) (mo5 : mo ≤ 5) (h : ∀ I, FitR I → (∀ a, (img I a).length ≤ 4) → prim I = true → P (.fz (iD I))) : df__law_images [.ow .pen, .fz (.int (mo : Int))] P X := by
  simp -implicitDefEqProofs [df__law_images, dfOf, rng_items]
  refine forD_inv (fun i δ => ∃ (o2 o3 : Option Sl), penA o2 ∧ penA o3 ∧ δ = [some (.ow .pen), some (.fz (.int (mo : Int))), o2, o3]) 0 ⟨none, none, trivial, trivial, rfl⟩ ?_ ?_
  · rintro j d δ N hd ⟨o2, o3, hp2, hp3, rfl⟩ hN
    obtain ⟨b, hb, rfl⟩ := at_ix hd
    simp -implicitDefEqProofs [hp2]
    simp only [g__law_images_3]
    simp -implicitDefEqProofs
    refine m_any mo1 mo5 fun I r l4 _ => ?_
    simp -implicitDefEqProofs [hp3, g__law_images_2]
    refine m_law_prim r.f ?_
    simp -implicitDefEqProofs
    by_cases hpr : prim I = true
    · simp -implicitDefEqProofs [hpr]
      exact h I r l4 hpr
    · simp -implicitDefEqProofs [hpr]
      exact hN _ ⟨_, some (.fz (iD I)), (show penA (some (.fz (.int (b : Int)))) from trivial), trivial, rfl⟩
  · rintro δ' ⟨o2, o3, hp2, hp3, rfl⟩
    simp only [g__law_images_1]
    simp -implicitDefEqProofs
    exact m_known fun I r l4 hp _ => h I r l4 hp
/-! ### _law_is of images, == of Rules -/
theorem m_is_tupn {k : Nat} {l : List Nat} {P : Sl → Prop} {X : DX → Prop} (hl : l.length ≤ 1000) (h : P (.fz (.bl true))) : df__law_is_n (k + 2) [.fz (.tup (natL l)), .fz (.tup (natL l))] P X := by
  have e0 : PyData.eqv (D.int (l.length : Int)).py (D.int (l.length : Int)).py = true := by simp -implicitDefEqProofs
  rw [df__law_is_n]
  simp -implicitDefEqProofs [dfOf, DL.up1, insIn, clsIn, isiL, isi1, tyD, u_ne, rng_items]
  refine ⟨by omega, by omega, ?_⟩
  refine lcD_map (fun b : Nat => D.int (b : Int)) (fun _ => false) (fun b => D.int (b : Int)) (fun b hb k2 hk => ?_) ?_
  · have hb' := List.mem_range.mp hb
    have e1 : atI (natL l) (b : Int) = some (.int ((l[b]'hb' : Nat) : Int)) := DL.atI_nat (by simp -implicitDefEqProofs [natL, hb'])
    simp -implicitDefEqProofs
    refine ⟨_, e1, ?_⟩
    try simp -implicitDefEqProofs
    refine ⟨_, e1, ?_⟩
    try simp -implicitDefEqProofs
    refine m_is_int (k := k) ?_
    try simp -implicitDefEqProofs
    simpa using hk
  · have e : (List.range l.length).filter (fun _ => false) = [] := List.filter_eq_nil_iff.mpr (by simp -implicitDefEqProofs)
    rw [e]
    simp -implicitDefEqProofs [u_eq, h]
theorem m_is_img {I : List (List Nat)} {P : Sl → Prop} {X : DX → Prop} (f : Fit I) (h : P (.fz (.bl true))) : df__law_is [.fz (iD I), .fz (iD I)] P X := by
  have hm := f.m5
  have e0 : PyData.eqv (D.int (I.length : Int)).py (D.int (I.length : Int)).py = true := by simp -implicitDefEqProofs
  unfold df__law_is
  rw [df__law_is_n]
  simp -implicitDefEqProofs [dfOf, DL.up1, insIn, clsIn, isiL, isi1, tyD, u_ne, rng_items]
  refine ⟨by omega, by omega, ?_⟩
  refine lcD_map (fun b : Nat => D.int (b : Int)) (fun _ => false) (fun b => D.int (b : Int)) (fun b hb k2 hk => ?_) ?_
  · have hb' := List.mem_range.mp hb
    have h8 := f.l8 b
    have e1 : atI (I.map wD) (b : Int) = some (wD (img I b)) := at_img hb'
    simp -implicitDefEqProofs
    refine ⟨_, e1, ?_⟩
    try simp -implicitDefEqProofs
    refine ⟨_, e1, ?_⟩
    try simp -implicitDefEqProofs
    refine m_is_tupn (k := 3) (by omega) ?_
    try simp -implicitDefEqProofs
    simpa using hk
  · have e : (List.range I.length).filter (fun _ => false) = [] := List.filter_eq_nil_iff.mpr (by simp -implicitDefEqProofs)
    rw [e]
    simp -implicitDefEqProofs [u_eq, h]
theorem okps_img : ∀ I : List (List Nat), D.okps (I.map wD) = true
  | [] => rfl
  | w :: I => by
    have h1 := okps_img I
    have h2 : D.okps (natL w) = true := by rw [nats_eq]; exact okps_ints _
    simp only [List.map_cons, D.okps, D.okp, h1, h2, Bool.and_self]
theorem depth_img : ∀ I : List (List Nat), PyData.depthAll (D.pys (I.map wD)) ≤ 2
  | [] => by simp -implicitDefEqProofs [D.pys, PyData.depthAll]
  | w :: I => by
    have h1 := depth_img I
    have h2 : PyData.depthAll (D.pys (natL w)) ≤ 1 := by rw [nats_eq]; exact depth_ints _
    simp only [List.map_cons, D.pys, D.py, PyData.depthAll, PyData.depth]
    omega
theorem ok_img (I : List (List Nat)) : (iD I).ok = true := by
  have := depth_img I
  simp only [D.ok, D.okp, okps_img, D.py, PyData.depth, Bool.true_and, decide_eq_true_eq]
  omega
theorem eqv_img : ∀ I : List (List Nat), PyData.eqvAll (D.pys (I.map wD)) (D.pys (I.map wD)) = true
  | [] => by simp -implicitDefEqProofs [D.pys, PyData.eqvAll]
  | w :: I => by
    have h1 := eqv_img I
    have h2 := eqv_natsT w w
    simp only [List.map_cons, D.pys, PyData.eqvAll, h1, h2, decide_true, Bool.and_self]
theorem m_Rule_eq {I : List (List Nat)} {P : Sl → Prop} {X : DX → Prop} (h : P (.fz (.bl true))) : df_Rule_eq [.fz (rD I), .fz (rD I)] P X := by
  have e : PyData.eqv (iD I).py (iD I).py = true := by simp only [D.py, PyData.eqv]; exact eqv_img I
  simp -implicitDefEqProofs [df_Rule_eq, dfOf, DL.up1, insIn, clsIn, isiL, isi1, tyD, ok_img, e, h]
end LW
namespace LW
open PySem L2 Evl PySem.Spec PyProof.Rows DL LamX PM
theorem pa : prim [[0, 1], [1]] = false := by
  unfold prim
  rw [decide_eq_false_iff_not]
  rintro ⟨k, hk, hf⟩
  have hk : k ≤ 4 := hk
  have := hf 1 (by decide) 0 (by decide)
  have no : ∀ k, k ≤ 4 → 0 ∉ wd [[0, 1], [1]] (k + 1) 1 := by decide +kernel
  exact no k hk this
theorem ra : FitR [[0, 1], [1]] := fit_of (by decide)
abbrev rr : D := .tup [.str "rule", .str "rule"]
abbrev ru : D := .tup [.str "unlike", .str "rule"]
theorem f_ok : (D.lst [rr, rr, ru, ru]).ok = true := by decide +kernel
theorem f_eq : PyData.eqv (D.lst [rr, rr, ru, ru]).py (D.lst [rr, rr, ru, ru]).py = true := by decide +kernel
theorem well_names {I : List (List Nat)} (r : PM.Row I) : names (well I) = List.range I.length := by
  unfold names
  rw [ren_len]
  conv => rhs; rw [← List.map_id (List.range I.length)]
  apply List.map_congr_left
  intro b hb
  exact well_nm r (List.mem_range.mp hb)
theorem m_right {P : Sl → Prop} {X : DX → Prop} (h : P (.fz (.bl true))) : df__law_right [.ow .pen] P X := by
  have step : ∀ I, FitR I → (∀ a, (img I a).length ≤ 4) → prim I = true → ∀ o2 : D, g__law_right_9 [some (.ow .pen), some (.fz (iD I)), some (.fz o2), none, none, none, none, none, none, none, none, none] ⟨fun x => P (.fz .non), P, fun x => False, fun x => False, X⟩ := fun I r l4 hp o2 => by
    have f := r.f
    have hm := f.m5
    have rw' := row_of r hp
    have rn := nm_ren rw'
    have wf := ren_fit r rn
    have wp := ren_prim f.g rn hp
    have wr := ren_Row rw' rn
    have hnl : (names I).length ≤ 1000 := by simp -implicitDefEqProofs [names]; omega
    have hNr : natL (names (well I)) = (List.range I.length).map fun (b : Nat) => D.int (b : Int) := by rw [well_names rw']
    have hrow : (rowS I 60).map (fun b => D.int (nm I b : Int)) = natL (rowS (well I) 60) := by
      rw [ren_rowS rw' rn, natL, List.map_map]
      rfl
    obtain ⟨nl, enl⟩ : ∃ nl, nl = names I := ⟨_, rfl⟩
    obtain ⟨J, eJ⟩ : ∃ J, J = well I := ⟨_, rfl⟩
    obtain ⟨r1, er1⟩ : ∃ r1, r1 = rowS I 60 := ⟨_, rfl⟩
    obtain ⟨r2, er2⟩ : ∃ r2, r2 = rowS J 60 := ⟨_, rfl⟩
    have hnl2 : nl.length ≤ 1000 := by rw [enl]; exact hnl
    have hJl : J.length = I.length := by rw [eJ]; exact ren_len _
    have h60 : r1.length = 60 := by rw [er1]; exact rowS_len rw' 60
    simp -implicitDefEqProofs [g__law_right_9]
    refine m_Rule r ?_
    simp -implicitDefEqProofs [g__law_right_8]
    refine m_law_names f rw' l4 ?_
    rw [← enl]
    simp -implicitDefEqProofs [g__law_right_7]
    refine m_told_well r hp ?_
    rw [← eJ]
    simp -implicitDefEqProofs [g__law_right_6]
    refine m_naming r hp ?_
    rw [← enl]
    simp -implicitDefEqProofs
    refine m_is_tup hnl2 ?_
    simp -implicitDefEqProofs [DL.up1, insIn, clsIn, isiL, isi1, tyD]
    rw [law_renamed_eq]
    refine m_renamed (o := nl) (.inl rfl) f rn (fun a ha => by rw [enl]; simp -implicitDefEqProofs [names, ha]) ?_
    rw [show ren I (nm I) = J from eJ.symm]
    simp -implicitDefEqProofs
    refine m_is_img (by rw [eJ]; exact wf.f) ?_
    simp -implicitDefEqProofs [g__law_right_5]
    refine m_row_start (L := 60) f rw' (by omega) ?_
    rw [← er1]
    simp -implicitDefEqProofs
    refine m_row_start (L := 60) (I := J) (by rw [eJ]; exact wf.f) (by rw [eJ]; exact wr) (by omega) ?_
    rw [← er2]
    simp -implicitDefEqProofs [g__law_right_4, h60]
    refine lcD_map (fun b : Nat => D.int (b : Int)) (fun _ => true) (fun b => D.int (nm I b : Int)) (fun b hb k2 hk => ?_) ?_
    · have hb' : b < I.length := rowS_lt rw' (by rw [← er1]; exact hb)
      have e1 : nl[b]? = some (nm I b) := by rw [enl]; simp -implicitDefEqProofs [names, hb']
      simp -implicitDefEqProofs
      refine ⟨_, at_o e1, ?_⟩
      simpa using hk
    rw [List.filter_eq_self.mpr (by simp -implicitDefEqProofs), er1, hrow, show rowS (well I) 60 = r2 by rw [er2, eJ]]
    simp -implicitDefEqProofs [u_ne]
    refine m_told_well (I := J) (by rw [eJ]; exact wf) (by rw [eJ]; exact wp) ?_
    rw [show well J = J by rw [eJ]; exact well_well rw']
    simp -implicitDefEqProofs
    refine m_Rule_eq ?_
    refine .inr ⟨rfl, ?_⟩
    refine m_naming (I := J) (by rw [eJ]; exact wf) (by rw [eJ]; exact wp) ?_
    obtain ⟨rl, erl⟩ : ∃ rl, rl = List.range I.length := ⟨_, rfl⟩
    have hrl : rl.length = I.length := by rw [erl]; simp -implicitDefEqProofs
    have hN : natL (names J) = natL rl := by rw [eJ, well_names rw', erl]
    have hN2 : rgD 0 I.length = natL rl := by rw [erl]; exact rng_items _
    rw [hN, hN2]
    obtain ⟨Q, eQ⟩ : ∃ Q : List (List Nat), Q = [[0, 1], [1]] := ⟨_, rfl⟩
    have ea : (D.tup [D.tup [D.int 0, D.int 1], D.tup [D.int 1]]) = iD Q := by rw [eQ]; rfl
    have rQ : FitR Q := by rw [eQ]; exact ra
    have pQ : prim Q = false := by rw [eQ]; exact pa
    simp -implicitDefEqProofs [hrl, hm]
    refine ⟨by omega, by omega, ?_⟩
    simp -implicitDefEqProofs [g__law_right_3]
    refine m_bad fun d hd => ?_
    simp -implicitDefEqProofs
    rw [ea]
    refine m_Rule rQ ?_
    simp -implicitDefEqProofs [g__law_right_2]
    refine m_one (.inl rfl) hd ?_
    simp -implicitDefEqProofs
    refine m_one (.inr rfl) hd ?_
    simp -implicitDefEqProofs
    refine m_two (.inl rfl) rQ.f pQ ?_
    simp -implicitDefEqProofs
    refine m_two (.inr rfl) rQ.f pQ ?_
    simp -implicitDefEqProofs [g__law_right_1]
    rw [f_eq]
    exact ⟨f_ok, h⟩
  simp -implicitDefEqProofs [df__law_right, dfOf]
  refine m_images (mo := 5) (by omega) (by omega) fun I r l4 hp => ?_
  have hm := r.f.m5
  simp -implicitDefEqProofs [g__law_right_11]
  have rg1 : rgD 1 (I.length - 1) = natL ((List.range (I.length - 1)).map (1 + ·)) := by
    rw [rgD_eq, natL, List.map_map]
    apply List.map_congr_left
    intro i _
    simp -implicitDefEqProofs
  rw [rg1]
  refine ⟨by omega, by simp -implicitDefEqProofs; omega, ?_⟩
  refine m_shuffled (by simp -implicitDefEqProofs; omega) fun l' pm => ?_
  have hl : l'.length = I.length - 1 := by have := pm.length_eq; simpa using this
  have pos := r.f.g.pos
  have pm2 : (0 :: l').Perm (List.range I.length) := by
    have e : List.range I.length = 0 :: (List.range (I.length - 1)).map (1 + ·) := by
      obtain ⟨q, e⟩ : ∃ q, I.length = q + 1 := ⟨I.length - 1, by omega⟩
      rw [e, List.range_succ_eq_map]
      congr 1
      apply List.map_congr_left
      intro i _
      show i + 1 = 1 + i
      omega
    rw [e]
    exact List.Perm.cons 0 pm
  have rn := ren_of_perm pm2 rfl
  obtain ⟨o, eo⟩ : ∃ o, o = 0 :: l' := ⟨_, rfl⟩
  have e0 : D.int 0 :: natL l' = natL o := by subst eo; rfl
  simp -implicitDefEqProofs only [v_vw2, o_add3, List.cons_append, List.nil_append, e0]
  refine ⟨by simp -implicitDefEqProofs; omega, ?_⟩
  rw [← eo] at rn pm2
  simp -implicitDefEqProofs [g__law_right_10]
  rw [law_renamed_eq]
  refine m_renamed (o := o) (.inr rfl) r.f rn (fun a ha => ?_) ?_
  · have : o.length = I.length := by have := pm2.length_eq; simpa using this
    simp -implicitDefEqProofs [List.getD_eq_getElem?_getD, this, ha]
  exact step _ (ren_fit r rn) (ren_l rn l4) (ren_prim r.f.g rn hp) _
theorem m_law {ns : List Int} {P : Sl → Prop} {X : DX → Prop} (hl : ns.length ≤ 63) (h : P (.fz (.bl true))) : df_law [.fz (.scr ns)] P X := by
  simp -implicitDefEqProofs [df_law, dfOf]
  refine m_pen hl ?_
  simp -implicitDefEqProofs [g_law_3, rng_items]
  refine forD_inv (fun i δ => ∃ (o2 : Option Sl), penA o2 ∧ δ = [some (.fz (.scr ns)), some (.ow .pen), o2]) 0 ⟨none, trivial, rfl⟩ ?_ ?_
  · rintro j d δ N hd ⟨o2, hp, rfl⟩ hN
    obtain ⟨b, hb, rfl⟩ := at_ix hd
    simp -implicitDefEqProofs [hp, g_law_2]
    refine m_right ?_
    simp -implicitDefEqProofs
    exact hN _ ⟨some (.fz (.int (b : Int))), trivial, rfl⟩
  · rintro δ' ⟨o2, hp, rfl⟩
    simp -implicitDefEqProofs only [g_law_1]
    simp -implicitDefEqProofs
    exact h
end LW
open PySem PySem.W PyProof.Rows
set_option maxRecDepth 100000 in
set_option maxHeartbeats 0 in
theorem PySem.Challenge.cw_ledagain_k06_whole_rules_told_well_holds : PySem.Challenge.rw_ledagain_k06_whole_rules_told_well.Holds := by
  w_on; o_law; k_head; (case hw => w_witness2)
  k_fill
  refine LamX.walk_ofTs (l := PySem.Challenge.rw_ledagain_k06_whole_rules_told_well) (n := 63) (k := 15) (x := "script") (CX := fun w => L2.CX PySem.Challenge.rw_ledagain_k06_whole_rules_told_well.prog w) rfl (by decide) rfl ⟨rfl, by decide, by decide⟩ (fun w h Y => PySem.W.km_in_of Y) ?F ?C
  case F =>
    intro w mg fa h Y KX G hmg
    exact LW.law_at KX G hmg (PySem.W.km_tabs_of Y) (by constructor <;> kernel_rfl) (fun ns hl => LW.m_law hl rfl)
  case C =>
    intro w H s e s' z
    obtain ⟨_, _, _, _, _, _, _, _, _, _, _, _, z⟩ := z
    exact z.elim
